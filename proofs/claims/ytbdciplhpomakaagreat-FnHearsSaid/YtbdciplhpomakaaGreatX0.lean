/- The given functions, as what they compute; each is shown to be what the code does. No conditions. -/
import Derived.Test.YtbdciplhpomakaaGreatG5
import Derived.Test.YtbdciplhpomakaaGreatProg
set_option linter.unusedVariables false
set_option linter.unusedSimpArgs false
set_option linter.unusedSectionVars false
namespace Go.Fw
noncomputable abbrev PG:=Go.Proofs.Tryz.prog
def o2 (d:Nat) (e:ED) (j:Nat) (b:Bool):TO:=⟨false,[],[],.det 1 e,[d],some d,some (j,b)⟩
def o3 (d:Nat) (K:FuncId) (gets:List OY):TO:=⟨false,[],[],.call 1 K gets .no,[d],some d,none⟩
def o4 (n:Nat) (ds:List Nat) (e:ED):TO:=⟨false,[],[],.det n e,ds,none,none⟩
abbrev Oq : List TY := [.i .i64, .sl [.i .i64], .sl [.i .i64, .i .i64], .sl [.sl [.i .i64]], .sl [.i .i64], .i .i64, .i .i64, .i .i64, .i .i64, .i .i64, .i .i64, .i .i64, .sl [.i .i64, .i .i64], .i .i64, .sl [.i .i64, .i .i64, .i .i64, .i .i64, .i .i64, .i .i64], .sl [.i .i64, .i .i64, .sl [.i .i64, .i .i64, .i .i64, .b], .i .i64, .b, .sl [.i .i64, .i .i64], .sl [.i .i64]]]
abbrev Ty1 : List TY := [.i .i64, .sl [.i .i64], .sl [.i .i64, .i .i64], .sl [.sl [.i .i64]], .sl [.i .i64], .i .i64, .i .i64, .i .i64, .i .i64, .i .i64, .i .i64, .i .i64, .sl [.i .i64, .i .i64], .i .i64, .sl [.i .i64, .i .i64, .i .i64, .i .i64, .i .i64, .i .i64], .i .i64]
abbrev bC : List TY := [.i .i64, .sl [.i .i64], .sl [.i .i64, .i .i64], .sl [.sl [.i .i64]], .sl [.i .i64], .i .i64, .i .i64, .i .i64, .i .i64, .i .i64, .i .i64, .i .i64, .sl [.i .i64, .i .i64], .i .i64, .sl [.i .i64, .i .i64, .i .i64, .i .i64, .i .i64, .i .i64]]
abbrev Ty3 : List TY := [.i .i64, .i .i64, .sl [.i .i64, .i .i64, .i .i64, .b], .i .i64, .b, .sl [.i .i64, .i .i64], .sl [.i .i64], .i .i64, .b, .sl [.i .i64, .i .i64], .sl [.i .i64], .i .i64]
abbrev gF : List TY := [.i .i64, .i .i64, .sl [.i .i64, .i .i64, .i .i64, .b], .i .i64, .b, .sl [.i .i64, .i .i64], .sl [.i .i64]]
abbrev Kc : List TY := [.i .i64, .i .i64, .i .i64, .i .i64, .i .i64, .i .i64, .i .i64, .sl [.i .i64, .i .i64], .i .i64]
abbrev Ty6 : List TY := [.i .i64, .sl [.i .i64, .i .i64, .i .i64, .b], .i .i64, .i .i64, .b, .b]
abbrev XI : List TY := [.sl [.i .i64, .i .i64, .i .i64, .i .i64, .i .i64, .i .i64]]
abbrev XJ : List TY := [.i .i64, .i .i64, .i .i64, .i .i64, .i .i64, .i .i64]
abbrev fQ : List TY := [.i .i64, .b, .sl [.i .i64, .i .i64], .sl [.i .i64]]
abbrev eX : List TY := [.i .i64, .i .i64, .sl [.i .i64, .i .i64], .i .i64]
abbrev VP : List TY := [.i .i64, .sl [.i .i64, .i .i64, .i .i64, .b], .b]
abbrev bv : List TY := [.i .i64, .sl [.i .i64, .i .i64, .i .i64, .b]]
abbrev agG : List TY := [.i .i64, .sl [.i .i64, .i .i64], .b]
abbrev kG : List TY := [.sl [.i .i64, .i .i64, .i .i64, .b]]
abbrev fI : List TY := [.i .i64, .i .i64, .i .i64, .i .i64]
abbrev gI : List TY := [.i .i64, .sl [.i .i64, .i .i64]]
abbrev bg : List TY := [.sl [.i .u8], .i .i64, .i .i64]
abbrev kH : List TY := [.i .i64, .i .i64, .i .i64, .b]
abbrev nK : List TY := [.i .i64, .sl [.sl [.i .i64]]]
abbrev Ct0:List CT:=[.d,.sl (.own none) [.d],.sl (.own none) [.d,.d],.sl (.own none) [.sl (.own none) [.d]],.sl (.own none) [.d],.d,.d,.d,.d,.d,.d,.d,.sl (.own none) [.d,.d],.d,.sl (.own none) [.d,.d,.d,.d,.d,.d],.d]
abbrev l6:List CT:=[.d,.sl (.own none) [.d],.sl (.own none) [.d,.d],.sl (.own none) [.sl (.own none) [.d]],.sl (.own none) [.d],.d,.d,.d,.d,.d,.d,.d,.sl (.own none) [.d,.d],.d,.sl (.own none) [.d,.d,.d,.d,.d,.d]]
abbrev Jj:List CT:=[.d,.d,.sl (.own none) [.d,.d,.d,.d],.d,.d,.sl (.own none) [.d,.d],.sl (.own none) [.d]]
abbrev Az:List CT:=[.d,.d,.sl (.own none) [.d,.d],.sl (.own none) [.d]]
abbrev Ct4:List CT:=[.d,.d,.d,.d,.d,.d,.d,.sl (.own none) [.d,.d],.d]
abbrev Ct5:List CT:=[.d,.sl (.own none) [.d,.d,.d,.d],.d]
abbrev Ct6:List CT:=[.sl (.own none) [.d,.d,.d,.d,.d,.d]]
abbrev qa:List CT:=[.d,.sl (.own none) [.d,.d,.d,.d]]
abbrev EC:List CT:=[.d,.d,.sl (.own none) [.d,.d],.d]
abbrev Ot:List CT:=[.d,.sl (.own none) [.d,.d]]
abbrev fE:List CT:=[.sl (.own none) [.d,.d]]
abbrev al4:List CT:=[.sl (.own none) [.d],.d]
abbrev dF:List CT:=[.sl (.own none) [.d]]
abbrev aaL:List CT:=[.d,.d,.d,.d,.d,.d]
def oc (d s:Nat):TO:=o1 d (.copy s)
def oi (d:Nat):TO:=o1 d (.idx .nil)
def o5 (e:ED) (d x:Nat):TO:=⟨false,[],[],.det 2 e,[d,x],some d,none⟩
def o6 (d s:Nat):TO:=⟨true,[],[],.det 1 (.copy s),[d],some d,none⟩
def o7 (a:Nat) (x y:DX) (d:Nat):TO:=⟨false,[],[],.pick a x y,[d],some d,none⟩
abbrev kV (n:Int):Value:=.int .i64 n
abbrev kO (n:Int):OY:=.c [.i .i64] [kV n]
abbrev kD (n:Int):DX:=.c (kV n)
abbrev kL (n:Int):ED:=.lit [.i .i64] [kV n]
abbrev iI:TY:=.i .i64
def zS (l:List (List TO)) (c:TC):TC:=.seq (.rg l.flatten) c
def zR (l:List (List TO)):TC:=.rg l.flatten
def zQ (a b:TC):TC:=.seq a b
def zC (x:Nat) (a b:TC):TC:=.cond (.t x) a b
def aZ (a:Nat):List TO:=[o1 a (.lit [.b] [.bool false])]
def ai (a b:Nat):List TO:=[oc a b]
def je (a b:Nat):List TO:=[o1 a (.len b)]
def SS (a b:Nat)(c:Int):List TO:=[o1 a (.data (.bin .gtr) [.t b,kD c])]
def SY (a:Nat)(b:Int)(c:Nat):List TO:=[o1 a (.data (.bin .add) [kD b,.t c])]
def bD (a:Nat):List TO:=[o1 a (kL 0)]
def eD (a b c:Nat):List TO:=[o1 a (.data (.bin .lss) [.t b,.t c])]
def eQ (a b c:Nat):List TO:=[o2 a (.copy b) c true]
def zAi (a b:Nat)(c:Int)(d:Nat):List TO:=[o2 a (.data (.bin .lss) [.t b,kD c]) d true]
def lF (a b c:Nat):List TO:=[o7 a (.t b) (.c (.bool false)) c]
def zAk (a b:Nat)(c:Int):List TO:=[o1 a (.data (.bin .mul) [.t b,kD c])]
def qb (a b c:Nat):List TO:=[o1 a (.index b (.t c))]
def XK (a b c d:Nat):List TO:=[o1 a (.load b [(0,c)] 0 (.t d) 1 false)]
def zAo (a b c:Nat):List TO:=[o1 a (.data (.bin .add) [.t b,.t c])]
def zAp (a b:Nat)(c:Int):List TO:=[o1 a (.data (.bin .and) [.t b,kD c])]
def yI (a b:Nat):List TO:=[o1 a (.data (.bin .add) [.t b,kD 1])]
def bW (a b:Nat):List TO:=[o1 a (.a (.t b))]
def bN (a:Nat):List TO:=[o1 a (.p0)]
def kQ (a b:Nat):List TO:=[o1 a (.same b)]
def yJ (a b:Nat):List TO:=[o1 a (.idx (.t b))]
def EE (a b c d:Nat):List TO:=[o1 a (.load b [] c (.t d) 1 false)]
def zAw (a b c d e:Nat):List TO:=[o4 1 [a] (.store b [] c (.t d) (.t e))]
def zAx (a b c:Nat):List TO:=[o1 a (.data (.bin .shr) [.t b,.c (.int .u64 (c))])]
def zAy (a b:Nat)(c:Int):List TO:=[o1 a (.data (.bin .leq) [.t b,kD c])]
def zAz (a b c:Nat):List TO:=[⟨false,[],[],.call 2 a [.t 0] (.mp 0),[b,0],(some c),none⟩]
def zAA (a b c:Nat):List TO:=[o1 a (.data (.bin .rem) [.t b,.t c])]
def zAB (a:Nat)(b:Int)(c d:Nat):List TO:=[⟨false,[],[],.call 2 a [.t 0,kO b] (.mp 0),[c,0],(some d),none⟩]
def zAC (a b c:Nat):List TO:=[o1 a (.data (.bin .geq) [.t b,.t c])]
def zAD:List TO:=[o2 13 (.data (.bin .leq) [.t 11,.t 12]) 3 true]
def EF (a:Nat):List TO:=[o1 a (.lit [.sl [.i .i64]] [.slice none 0 0])]
def S9 (a:Nat):List TO:=[o1 a (.sli [.i .i64] [])]
def bV (a b c:Nat):List TO:=[o5 (.copy a) b c]
def Ke (a b:Nat):List TO:=[o1 a (.sli [.i .i64] [.t b])]
def vU (a b c d:Nat):List TO:=[o5 (.app (some a) b) c d]
def eU (a b:Nat):List TO:=[o6 a b]
def zBf (a b c d e:Nat):List TO:=[o1 a (.load b [(0,c)] d (.t e) 1 false)]
def XL (a b c d e f:Nat):List TO:=[o4 1 [a,b] (.store c [(d,1)] 0 (.t e) (.t f))]
def qM (a b:Nat):List TO:=[o5 (.a (.c bC [kV 0,.slice none 0 0,.slice none 0 0,.slice none 0 0,.slice none 0 0,kV 0,kV 0,kV 0,kV 0,kV 0,kV 0,kV 0,.slice none 0 0,kV 0,.slice none 0 0])) a b]
def nH (a b c:Nat)(d:Int):List TO:=[o3 a b [.t c,kO 1,kO d]]
def iH (a b:Nat):List TO:=[o1 a (.data .not [.t b])]
def eZ (a b c:Nat):List TO:=[o2 a (.copy b) c false]
def Ov (a b:Nat)(c:Int)(d e f:Nat):List TO:=[⟨false,[],[],.call 1 a [.t b,kO 1,kO c] .no,[d],(some e),some (f,false)⟩]
def zBn (a b c:Nat):List TO:=[o2 a (.data .not [.t b]) c false]
def tC (a b c:Nat):List TO:=[o7 a (.c (.bool true)) (.t b) c]
def dW (a b c d:Nat):List TO:=[o4 2 [a,b] (.store c [] 0 .nil (.t d))]
def d_ (a:Nat):List TO:=[oi a]
def zBr (a b c d:Nat):List TO:=[o1 a (.load b [] c (.t d) 1 true)]
def zBs (a b c d e f g h:Nat):List TO:=[⟨false,[a],[],.det 2 (.app (some b) c),[d,e,f,g],(some h),none⟩]
def zBt (a b c d e f g:Nat):List TO:=[o4 2 [a,b,c] (.store d [] e (.t f) (.t g))]
def S_ (a:Nat):List TO:=[o1 a (.sli [.i .i64,.i .i64] [])]
def fJ (a b c d:Nat):List TO:=[o3 a b [.t c,.t d]]
def zBw (a b c:Nat):List TO:=[o5 (.sli [.sl [.i .i64]] [.t a]) b c]
def zBx (a b c d e f g h i:Nat):List TO:=[⟨false,[a],[],.det 3 (.app (some b) c),[d,e,f,g,h],(some i),none⟩]
def gP (a b c:Nat):List TO:=[o1 a (.load b [] 0 .nil c true)]
def vV (a b c d e f g:Nat):List TO:=[⟨false,[a],[],.det 2 (.store b [] 0 .nil (.t c)),[d,e,f,g],none,none⟩]
def gH (a:Nat):List TO:=[o1 a (.lit [.b] [.bool true])]
def EG (a b:Nat):List TO:=[o5 (.a (.c bv [kV 0,.slice none 0 0])) a b]
def zBC (a:Nat):List TO:=[o1 a (.build bv [])]
def zBD (a b:Nat):List TO:=[o1 a (.build bv [(0,.t b)])]
def zBE (a b:Nat):List TO:=[o5 (.a (.c gF [kV 0,kV 0,.slice none 0 0,kV 0,.bool false,.slice none 0 0,.slice none 0 0])) a b]
def dX (a b c:Nat):List TO:=[o3 a b [.t c]]
def zDb (a b c d:Nat):List TO:=[o5 (.ext a 0 b) c d]
def zDc (a b c:Nat):List TO:=[o1 a (.ext b c 1)]
def zDd (a:Nat):List TO:=[o1 a (.build gF [])]
def kg (a:Nat)(b:Int):List TO:=[o1 a (kL b)]
def zDf (a b:Nat)(c:Int):List TO:=[o1 a (.data (.bin .neq) [.t b,kD c])]
def Ta (a b:Nat):List TO:=[o5 (.a (.c gI [kV 0,.slice none 0 0])) a b]
def zDh (a b:Nat):List TO:=[o1 a (.build gI [(0,.t b)])]
def AA (a b c:Nat):List TO:=[o1 a (.build [.i .i64,.i .i64] [(0,.t b),(1,.t c)])]
def Kg (a b:Nat):List TO:=[o1 a (.sli [.i .i64,.i .i64] [.t b])]
def ko (a b:Nat):List TO:=[o2 a (.idx .nil) b true]
def tF (a b c d e:Nat):List TO:=[o2 a (.load b [] c (.t d) 1 false) e true]
def zDn (a b c:Nat):List TO:=[o2 a (.data (.bin .sub) [.t b,kD 1]) c true]
def zDo (a b c d e f:Nat):List TO:=[⟨false,[],[],.call 1 a [.t b,kO 0,.t c] .no,[d],(some e),some (f,true)⟩]
def zDp (a b c d:Nat):List TO:=[o2 a (.data (.bin .lss) [.t b,.t c]) d true]
def vW (a b:Nat):List TO:=[o2 a (.idx .nil) b false]
def w9 (a b c d e:Nat):List TO:=[o2 a (.load b [] c (.t d) 1 false) e false]
def zDs (a b c d:Nat):List TO:=[o2 a (.data (.bin .eql) [.t b,.t c]) d false]
def zDt (a b c d e:Nat):List TO:=[⟨false,[],[],.pick a (.t b) (.c (.bool false)),[c],(some d),some (e,false)⟩]
def zDu (a b c d e:Nat):List TO:=[o1 a (.load b [(0,c)] 0 (.t d) e false)]
def zDv (a b:Nat)(c:Int)(d:Nat):List TO:=[o2 a (.data (.bin .gtr) [.t b,kD c]) d false]
def mH (a b c d:Nat):List TO:=[o2 a (.index b (.t c)) d true]
def zDx (a b c d e f:Nat):List TO:=[o2 a (.load b [(0,c)] 0 (.t d) e false) f true]
def kR (a b c d e f:Nat):List TO:=[⟨false,[],[],.call 1 a [.t b,.t c] .no,[d],(some e),some (f,true)⟩]
def zDz (a b c:Nat):List TO:=[o2 a (.data .not [.t b]) c true]
def vX (a:Nat):List TO:=[o1 a (.lit [.sl [.i .i64,.i .i64]] [.slice none 0 0])]
def Ow (a b:Nat):List TO:=[o5 (.a (.c kH [kV 0,kV 0,kV 0,.bool false])) a b]
def df (a b c:Nat):List TO:=[o4 1 [a] (.store b [] 0 .nil (.t c))]
def zDD (a b c d:Nat):List TO:=[o2 a (.data (.bin .geq) [.t b,.t c]) d true]
def mI (a b c:Nat):List TO:=[o1 a (.data (.bin .eql) [.t b,.t c])]
def dw (a b c:Nat):List TO:=[o1 a (.load b [] 0 .nil c false)]
def zEb (a b c d e f g:Nat):List TO:=[o4 1 [a,b] (.store c [(d,e)] f (.t g) (.c [.b] [.bool true]))]
def lG (a b:Nat):List TO:=[o5 (.a (.c [.i .i64,.i .i64] [kV 0,kV 0])) a b]
def AB (a b c d:Nat):List TO:=[o2 a (.load b [] 0 .nil c false) d false]
def yK (a b c d e f:Nat):List TO:=[⟨false,[],[],.call 1 a [.t b,.t c] .no,[d],(some e),some (f,false)⟩]
def zEf (a b c:Nat):List TO:=[o2 a (.data (.bin .sub) [.t b,kD 1]) c false]
def zEg (a b:Nat)(c:Int)(d e f g:Nat):List TO:=[⟨false,[],[],.call 1 a [.t b,kO c,.t d] .no,[e],(some f),some (g,false)⟩]
def zEh (a b:Nat):List TO:=[o5 (.a (.c nK [kV 0,.slice none 0 0])) a b]
def zEi (a b c d e f:Nat):List TO:=[⟨false,[a],[],.det 2 (.store b [] 0 .nil (.t c)),[d,e,f],none,none⟩]
def Ox (a b c d e:Nat):List TO:=[o3 a b [.t c,.t d,.t e]]
def zEk (a b c d e:Nat):List TO:=[⟨true,[a],[],.det 1 (.copy b),[c,d],(some e),none⟩]
def Tc (a b c d e:Nat):List TO:=[⟨false,[],[],.det 2 (.copy a),[b,c,d],(some e),none⟩]
def zEn (a b:Nat):List TO:=[o1 a (.index b (kD 0))]
def w_ (a b c d e:Nat):List TO:=[o2 a (.load b [(0,c)] 0 (.t d) 1 false) e true]
def Oy (a b c d:Nat):List TO:=[⟨true,[],[],.det 1 (.copy a),[b],(some c),some (d,true)⟩]
def zEq (a b c:Nat):List TO:=[o2 a (.len b) c true]
def XM (a b c d:Nat):List TO:=[o2 a (.data (.bin .eql) [.t b,.t c]) d true]
def tH (a b:Nat):List TO:=[o1 a (.data (.bin .sub) [.t b,kD 1])]
def tJ (a b:Nat)(c:Int):List TO:=[o1 a (.data (.bin .eql) [.t b,kD c])]
def zEu (a b c:Nat):List TO:=[o2 a (.len b) c false]
def zEv (a b c d e:Nat):List TO:=[⟨false,[],[],.call 1 a [.t b] .no,[c],(some d),some (e,true)⟩]
def zEw (a:Nat):List TO:=[o1 a (kL (-1))]
def zEx (a b c d e:Nat):List TO:=[o1 a (.load b [(c,d)] 0 (.t e) 1 false)]
def zEy (a b c d:Nat):List TO:=[o2 a (.load b [] 0 .nil c true) d true]
def zEz (a b c d:Nat):List TO:=[o2 a (.data (.bin .neq) [.t b,.t c]) d true]
def tK (a b c:Nat):List TO:=[o1 a (.data (.bin .neq) [.t b,.t c])]
def zEB (a b c:Nat):List TO:=[o1 a (.eqA [.i,.i] (.t b) (.t c) true)]
def zEC (a:Nat):List TO:=[o1 a (.build fQ [])]
def XN (a b c d:Nat):List TO:=[o3 a b [.t c,kO 0,.t d]]
def zEE (a b c d:Nat):List TO:=[o2 a (.index b (.t c)) d false]
def Td (a b c d e:Nat):List TO:=[o2 a (.load b [(0,c)] 0 (.t d) 1 false) e false]
def zGb (a b c d:Nat):List TO:=[o2 a (.data (.bin .neq) [.t b,.t c]) d false]
def zGc (a b c d e:Nat):List TO:=[⟨false,[],[],.call 1 a [.t b,kO 1,kO 100000] .no,[c],(some d),some (e,true)⟩]
def zGd (a b c:Nat):List TO:=[o3 a b [.t c,kO 0]]
def zGe (a b c d e f:Nat):List TO:=[o2 a (.load b [] c (.t d) e false) f false]
def XO (a b c d e:Nat):List TO:=[⟨false,[],[],.call 1 a [.t b] .no,[c],(some d),some (e,false)⟩]
def Jk (a b c d e:Nat):List TO:=[o1 a (.load b [] c (.t d) e false)]
def AC (a b c:Nat):List TO:=[o2 a (.idx (.t b)) c false]
def yL (a b c:Nat):List TO:=[o2 a (.idx (.t b)) c true]
def zGj (a b c d e f:Nat):List TO:=[o2 a (.load b [] c (.t d) e false) f true]
def Oz (a b c:Nat):List TO:=[o2 a (.data (.bin .eql) [.t b,kD 0]) c true]
def Jl (a b:Nat):List TO:=[o5 (.a (.c fQ [kV 0,.bool false,.slice none 0 0,.slice none 0 0])) a b]
def AJ (a b c d:Nat):List TO:=[o4 2 [1,a] (.store 1 [] b (.t c) (.t d))]
def zGo (a:Nat):List TO:=[o1 a (.build gI [])]
def zGp:List TO:=[o5 (.build gI [(0,.t 23),(1,.t 27)]) 28 27]
def zGq (a b c d e f:Nat):List TO:=[o2 a (.load b [(0,c)] d (.t e) 1 false) f true]
def zGr (a b:Nat):List TO:=[o1 a (.sli kH [.t b])]
def zGs (a b c:Nat):List TO:=[o1 a (.data (.bin .gtr) [.t b,.t c])]
def zGt (a b c d:Nat):List TO:=[⟨false,[],[a],.det 1 (.load b [] 0 .nil 2 false),[c],(some d),none⟩]
def zGu (a b c d e:Nat):List TO:=[⟨false,[],[a],.call 1 b [.t c] .no,[d],(some e),none⟩]
def zGv (a b c d e f:Nat):List TO:=[⟨false,[],[a],.call 1 b [.t c,.t d] .no,[e],(some f),none⟩]
def zGw (a b c d e:Nat):List TO:=[⟨false,[],[a],.det 2 (.copy b),[c,d],(some e),none⟩]
def zGx (a b c d e:Nat):List TO:=[⟨false,[],[a],.det 2 (.ext b 0 2),[c,d],(some e),none⟩]
def zGy (a b c d:Nat):List TO:=[⟨false,[],[a],.det 1 (.ext b 2 1),[c],(some d),none⟩]
def EH (a b c:Nat):List TO:=[⟨false,[],[a],.det 1 (.idx .nil),[b],(some c),none⟩]
def zGA (a b c d e f:Nat):List TO:=[⟨false,[],[a],.det 1 (.load b [] c (.t d) 1 false),[e],(some f),none⟩]
def zGB (a b c d e:Nat):List TO:=[⟨false,[],[a],.det 1 (.load b [] 0 .nil c true),[d],(some e),none⟩]
def zGC (a:Nat):List TO:=[o1 a (.build [.i .i64,.i .i64] [])]
def zGD:List TO:=[⟨false,[],[3000004001],.det 1 (.lit [.b] [.bool false]),[6,4],(some 6),none⟩]
def zGE (a b:Nat):List TO:=[o1 a (.data (.bin .geq) [.t b,kD 0])]
def zHa (a b c d e:Nat):List TO:=[⟨false,[],[a],.det 1 (.index b (.t c)),[d],(some e),none⟩]
def zHb (a b c d:Nat):List TO:=[⟨false,[],[a],.det 1 (.idx (.t b)),[c],(some d),none⟩]
def zHc (a b c d e f g h:Nat):List TO:=[⟨false,[],[a],.det 1 (.load b [(0,c)] d (.t e) f false),[g],(some h),none⟩]
def zHd (a b c:Nat):List TO:=[o2 a (.data (.bin .add) [.t b,kD 1]) c true]
def zHe (a b c d e:Nat):List TO:=[⟨false,[],[a,b],.det 1 (.load c [] 0 .nil 2 false),[d],(some e),none⟩]
def zHf (a b c d:Nat):List TO:=[⟨false,[],[a,b],.det 1 (.idx .nil),[c],(some d),none⟩]
def zHg (a b c d e f g:Nat):List TO:=[⟨false,[],[a,b],.det 1 (.load c [] d (.t e) 1 false),[f],(some g),none⟩]
def zHh (a b c d e:Nat):List TO:=[⟨false,[],[a,b],.det 1 (.index c (kD 0)),[d],(some e),none⟩]
def zHi (a b c d e f:Nat):List TO:=[⟨false,[],[a,b],.det 1 (.load c [(0,2)] 0 (.t d) 2 false),[e],(some f),none⟩]
def zHj (a b c d e f g:Nat):List TO:=[⟨false,[],[a,b],.call 1 c [.t d,.t e] .no,[f],(some g),none⟩]
def zHk (a b c d e f:Nat):List TO:=[⟨false,[],[a,b],.det 2 (.copy c),[d,e],(some f),none⟩]
def zHm (a b c d e f g:Nat):List TO:=[⟨false,[],[a,b],.det 1 (.ext c d e),[f],(some g),none⟩]
def zHn (a b c d e f:Nat):List TO:=[⟨false,[],[a,b],.det 1 (.ext c d 1),[e],(some f),none⟩]
def zHo (a b c d:Nat):List TO:=[⟨false,[],[a],.det 2 (.a (.c bv [kV 0,.slice none 0 0])),[b,c],(some d),none⟩]
def zHp (a b c d:Nat):List TO:=[⟨false,[],[a],.det 2 (.a (.c [.i .i64,.i .i64] [kV 0,kV 0])),[b,c],(some d),none⟩]
def zHq (a b c d:Nat):List TO:=[⟨true,[],[],.det 1 (.copy a),[b],(some c),some (d,false)⟩]
def Te (a b c d e f:Nat):List TO:=[o4 2 [a,b] (.store c [] d (.t e) (.t f))]
def zHs (a b:Nat):List TO:=[o5 (.a (.c eX [kV 0,kV 0,.slice none 0 0,kV 0])) a b]
def zHt (a b c:Nat):List TO:=[o1 a (.eqA [.i,.i,.i,.i] (.t b) (.t c) false)]
def zHu (a b c:Nat)(d:Int)(e:Nat):List TO:=[o3 a b [.t c,kO d,.t e]]
def zHv (a b:Nat):List TO:=[o5 (.a (.c Kc [kV 0,kV 0,kV 0,kV 0,kV 0,kV 0,kV 0,.slice none 0 0,kV 0])) a b]
def zHw (a b c d:Nat):List TO:=[o2 a (.load b [] 0 .nil c false) d true]
def zHx (a b:Nat)(c d:Int)(e f g:Nat):List TO:=[⟨false,[],[],.call 1 a [.t b,kO c,kO d] .no,[e],(some f),some (g,false)⟩]
def zHy (a b:Nat):List TO:=[o5 (.a (.c XJ [kV 0,kV 0,kV 0,kV 0,kV 0,kV 0])) a b]
def zHz (a b c d:Nat):List TO:=[o1 a (.build XJ [(0,.t b),(1,.t c),(5,.t d)])]
def zHA (a b:Nat):List TO:=[o1 a (.sli XJ [.t b])]
def zHB (a:Nat):List TO:=[o1 a (.build Kc [])]
def zHC:List TO:=[⟨false,[22],[],.det 2 (.build Kc [(0,.t 20),(4,.t 21),(5,.t 22)]),[23,22,22,7],(some 23),none⟩]
def zHD (a b c d e f g h:Nat):List TO:=[o4 2 [a,b,c,d] (.store e [] f (.t g) (.t h))]
def zHE (a b c:Nat)(d:Int)(e f g:Nat):List TO:=[⟨false,[],[],.call 2 a [.t b,.t c,kO d] (.mp 0),[e,f],(some g),none⟩]
def zIa (a b c:Nat):List TO:=[⟨false,[a],[],.det 1 (.copy b),[7,c],(some 7),none⟩]
def zIb (a b c d e f:Nat):List TO:=[⟨false,[],[],.det 2 (.copy a),[b,c,d,e],(some f),none⟩]
def zIc (a b c d:Nat):List TO:=[⟨false,[],[],.det 3 (.build eX [(1,kO 4),(2,.t a)]),[b,1000000002,c],(some d),none⟩]
def zId (a b c d e f g h i:Nat):List TO:=[⟨false,[],[],.call 3 a [.t b,.t c,.t d,.t e] (.mp 0),[f,g,h],(some i),none⟩]
def zIe (a b c d e f g:Nat):List TO:=[⟨false,[],[],.call 2 a [.t b,.t c,.t d] (.mp 0),[e,f],(some g),none⟩]
def jC (a b c d:Nat):List TO:=[⟨false,[],[],.call 2 a [.t 0,.t b] (.mp 0),[c,0],(some d),none⟩]
def zIg (a b:Nat):List TO:=[o5 (.a (.c fI [kV 0,kV 0,kV 0,kV 0])) a b]
def zIh (a b c d:Nat):List TO:=[o4 2 [0,a,16,19,24,27,48,b] (.store 0 [] 2 (.t c) (.t d))]
def zIi (a b:Nat)(c:Int)(d:Nat):List TO:=[o2 a (.data (.bin .geq) [.t b,kD c]) d false]
def zIj (a b c d e f:Nat):List TO:=[⟨false,[],[],.call 2 a [.t b,.t c] (.mp 0),[d,e],(some f),none⟩]
def zIk (a b:Nat):List TO:=[o5 (.a (.c Oq [kV 0,.slice none 0 0,.slice none 0 0,.slice none 0 0,.slice none 0 0,kV 0,kV 0,kV 0,kV 0,kV 0,kV 0,kV 0,.slice none 0 0,kV 0,.slice none 0 0,.slice none 0 0])) a b]
def XP (a b c d e:Nat):List TO:=[o1 a (.load b [] c (.t d) e true)]
def zIn (a b c d e f g h:Nat):List TO:=[⟨false,[],[a,b],.det 1 (.load c [] d (.t e) f true),[g],(some h),none⟩]
def zIo (a b c d e f:Nat):List TO:=[⟨false,[],[a,b],.det 1 (.index c (.t d)),[e],(some f),none⟩]
def zIp (a b c d e f:Nat):List TO:=[⟨false,[],[a,b],.det 1 (.load c [(15,7)] 0 (.t d) 7 true),[e],(some f),none⟩]
def zIq (a b c d e:Nat):List TO:=[⟨false,[],[a,b],.det 1 (.idx (.t c)),[d],(some e),none⟩]
def zIr (a b c d e f g h:Nat):List TO:=[⟨false,[],[a,b],.det 2 (.ext c d e),[f,g],(some h),none⟩]
def zIs (a b c d:Nat):List TO:=[⟨false,[],[a],.det 2 (.a (.c gF [kV 0,kV 0,.slice none 0 0,kV 0,.bool false,.slice none 0 0,.slice none 0 0])),[b,c],(some d),none⟩]
def zIt (a b c d:Nat):List TO:=[⟨false,[],[a],.det 2 (.a (.c fQ [kV 0,.bool false,.slice none 0 0,.slice none 0 0])),[b,c],(some d),none⟩]
def zIu (a b c d e f g:Nat):List TO:=[⟨false,[],[],.call 2 41 [.t a,.t b,.t c,.t d] (.mp 0),[e,f],(some g),none⟩]
def zIv (a b c d e:Nat):List TO:=[⟨false,[],[0],.det 1 (.load a [] b (.t c) 1 true),[d],(some e),none⟩]
def zIw (a:Nat)(b:Int)(c d e f:Nat):List TO:=[⟨false,[],[],.call 2 77 [.t a,kO b] (.mp 0),[c,d],(some e),some (f,true)⟩]
def zIx:List TO:=[⟨false,[],[],.det 5 (.sli [.i .i64] [kO 0,kO (-1),kO 100000,kO 100001]),[14,1000000001,1000000002,1000000003,1000000004],(some 14),none⟩]
def zIy (a b c d e f g:Nat):List TO:=[⟨true,[a],[],.det 2 (.res b (some (kD 1)) none),[c,d,e,f],(some g),none⟩]
def zIz (a b:Int)(c d:Nat):List TO:=[⟨false,[],[],.det 4 (.sli [.i .i64] [kO 0,kO a,kO b]),[c,1000000001,1000000002,1000000003],(some d),none⟩]
def zIA (a b:Nat):List TO:=[⟨false,[],[1000000001,1000000002,1000000003,0],.det 1 (.idx .nil),[a],(some b),none⟩]
def zIB (a b c d:Nat):List TO:=[⟨false,[],[1000000001,1000000002,1000000003,0],.det 1 (.load 6 [] a (.t b) 1 true),[c],(some d),none⟩]
def zIC (a b c:Nat):List TO:=[o2 a (.same b) c true]
def zID (a b:Nat)(c:Int)(d e f:Nat):List TO:=[⟨false,[],[],.call 2 a [.t b,kO c] (.mp 0),[d,e],(some f),none⟩]
def zIE (a b c d:Nat):List TO:=[⟨false,[],[a,7],.det 1 (.load b [] 0 .nil 4 true),[c],(some d),none⟩]
def zJa (a b:Nat):List TO:=[o1 a (.app none b)]
def zJb (a b c:Nat):List TO:=[o2 a (.same b) c false]
def zJc (a b c d e:Nat):List TO:=[o2 a (.load b [] c (.t d) 1 true) e false]
def zJd (a b c d e:Nat):List TO:=[o2 a (.load b [] c (.t d) 1 true) e true]
def zJe (a b c d e f g:Nat):List TO:=[⟨false,[],[],.call 2 188 [.t a,.t b,.t c] (.mt 5 [] 0 d 0),[e,5,f],(some g),none⟩]
def zJf (a b c d e f:Nat):List TO:=[o1 a (.load b [(c,d)] e (.t f) 1 false)]
def zJg (a b c d e f g h i:Nat):List TO:=[⟨false,[a],[],.det 2 (.store b [] 1 (.t c) (.t d)),[e,f,g,h,i],none,none⟩]
def bF (a b c:Nat):List TO:=d_ a++EE (a+1) b c a
def cB (a b c:Nat):List TO:=ai a b++ai (a+1) c
def zJj (a b:Nat):List TO:=ai a b++yI (a+1) a
def kr (a b:Nat):List TO:=kQ a b++yJ (a+1) a
def jq (a b c d e:Nat):List TO:=qb a b c++zDu (a+1) b d a e
def ku (a b c d:Nat):List TO:=qb a b c++XK (a+1) b d a
def xe (a b c d:Nat):List TO:=ko a b++tF (a+1) c d a b
def tL (a b c:Nat):List TO:=je a b++eD (a+1) c a
def qN (a b c d:Nat):List TO:=zBn a b c++tC d a (a+1)
def dZ (a b c:Nat):List TO:=zJj a b++ai c (a+1)
def tN (a b c d e:Nat):List TO:=ko a b++tF (a+1) c d a e
def iJ (a b c d e:Nat):List TO:=vW a b++w9 (a+1) c d a e
def nY (a b c d e f:Nat):List TO:=gP a b c++vV a d a e a a f
def kS (a b c:Nat):List TO:=lF a b c++ai (c+1) c
def jr (a b c:Nat):List TO:=d_ a++zBr (a+1) b c a
def Jm (a b c d e:Nat):List TO:=EH a b c++zGA a d e b (b+1) (b+1)
def fK (a b c d:Nat):List TO:=d_ a++EE (a+1) b c d
def kI (a b:Nat):List TO:=iH a b++ai (a+1) a
def EJ (a b c d:Nat):List TO:=vW a b++w9 (a+1) c d a b
def l7 (a b:Nat):List TO:=yI a b++ai b a
def Kh (a b c d e:Nat):List TO:=vU a b c d++bV c e c
def Tf (a b c:Nat):List TO:=qb a b c++yJ (a+1) a
def zJE (a b c d:Nat):List TO:=bV a b c++zDb b d (a+1) b
def EL (a b c d e:Nat):List TO:=qb a b c++XK (a+1) d e a
def OA (a b c d:Nat):List TO:=kr a b++zBr (a+2) c d (a+1)
def jD (a b:Nat)(c:Int)(d:Nat):List TO:=tJ a b c++ai d a
def iK (a b:Nat):List TO:=bW a b++aZ (a+1)
def qc (a b c d:Nat):List TO:=qN a b c d++ai (a+2) (a+1)
def qd (a b c d:Nat):List TO:=bV a b c++bV b d b
def jR (a b:Nat):List TO:=je a b++bD (a+1)
def kT (a b c d e:Nat):List TO:=bF a b c++bF (a+2) d e
def kU (a b c d:Nat):List TO:=lF a b c++ai d c
def AL (a b c:Nat):List TO:=cB a b c++tL (a+2) (a+1) a
def vY (a b c d:Nat):List TO:=dw a b c++dX (a+1) d a
def xf (a b c d e:Nat):List TO:=dw a b c++fJ (a+1) d e a
def zKn (a b c d e f g h i:Nat):List TO:=zHj a b c d e f g++zHk a b f h f i
def vZ (a b c d:Nat):List TO:=dW a b c d++ai (a+1) (b+1)
def zKp (a:Nat):List TO:=d_ a++yJ (a+1) a
def zKq (a b c d e f g h i j m:Nat):List TO:=zKn a b c d e f g h i++zIr a b h j m (f+1) h (f+1)
def AO (a b c d e f:Nat):List TO:=zDt a b c d e++tC f c (c+1)
def qf (a b c d e f:Nat):List TO:=ai a b++tN (a+1) c d e f
def EM (a b c d e:Nat):List TO:=zGb a b c d++tC e a (a+1)
def OB (a b c d:Nat):List TO:=ai a b++bF (a+1) c d
def qP (a b c d e:Nat):List TO:=d_ a++zAw b c d a e
def Jn (a b:Nat):List TO:=bN a++ai (a+1) b
def OC (a b c d:Nat):List TO:=cB a b c++ku (a+2) a (a+1) d
def OD (a b c:Nat):List TO:=cB a b c++eD (a+2) a (a+1)
def EN (a b c d e:Nat):List TO:=Kg a b++Kh c a (a+1) d e
def OE (a b c d e:Nat):List TO:=cB a b c++jq (a+2) a (a+1) d e
def OG (a b c d e f g:Nat):List TO:=AB a b c d++yK e f a (a+1) (a+1) g
def Tg (a b c d e f g:Nat):List TO:=d_ a++zBt b c d e f a g
def OH (a b c d e f g h i j m:Nat):List TO:=zBs a b c d e f g h++Tg (d+1) i d a j m d
def EO (a b:Nat)(c:Int):List TO:=bN a++zAB b c (a+1) (a+1)
def Jo (a b c:Nat):List TO:=bN a++OA (a+1) a b c
def zLb (a b:Nat):List TO:=ko a b++yL (a+1) a b
def Ti (a b c d:Nat):List TO:=zLb a b++tF (a+2) c d (a+1) b
def Tj (a b c:Nat):List TO:=Jn a b++jC c (a+1) (a+2) (a+2)
def Ki (a b c d e f:Nat):List TO:=qb a b c++zDu (a+1) d e a f
def Kj (a b c d e f:Nat):List TO:=xe a b c d++xe (a+2) b e f
def Kk (a b c d:Nat):List TO:=d_ a++Jk (a+1) b c a d
def Kl (a b:Nat)(c:Int):List TO:=tJ a b c++ai (b+1) a
def tO (a b c:Nat):List TO:=ai a b++je (a+1) c
def zLj (a b c d e:Nat):List TO:=zGw a b c d e++zGx a c (b+1) c (b+1)
def XQ (a b c d:Nat):List TO:=Tf a b c++XK (a+2) b d (a+1)
def zLm (a b c d e f g h:Nat):List TO:=zHm a b c d e f g++zHn a b c h (f+1) (f+1)
def zLn (a b c d e f g h i:Nat):List TO:=zLm a b c d e f g h++zHn a b c i (f+2) (f+2)
def zLo (a b c d e f g:Nat):List TO:=zHf a b c d++zIn a b e f c g (c+1) (c+1)
def zLp (a b c d e f g h:Nat):List TO:=zIq a b c d e++zIn a b f g d h (d+1) (d+1)
def XR (a b:Nat):List TO:=vW a b++AC (a+1) a b
def OI (a b c d e:Nat):List TO:=OB a b c d++tL e (a+2) a
def OJ (a b:Nat):List TO:=zJj a b++ai b (a+1)
def AP (a b c d:Nat):List TO:=bF a b c++ai (a+2) d
def OL (a b c d e:Nat):List TO:=zJE a b c d++zDc (a+2) b e
def OM (a b c d e f:Nat):List TO:=qb a b c++zEx (a+1) d e f a
def OO (a b c:Nat):List TO:=bF a b c++je (a+2) (a+1)
def zLx (a b c d e f:Nat):List TO:=zHf a b c d++zHg a b e f c (c+1) (c+1)
def zLy (a b c d e:Nat):List TO:=zLj a b c d e++zGy a c (b+2) (b+2)
def Tk (a b c d e:Nat):List TO:=eZ a b c++zEE (a+1) d a e
def Tm (a b c:Nat):List TO:=zKp a++EE (a+2) b c (a+1)
def zLB (a b c d:Nat):List TO:=zJE a b c d++zDc (a+2) b d
def zLC (a b c d e f:Nat):List TO:=zDn a b c++zDo d e a (a+1) (a+1) f
def zLD (a b c d:Nat):List TO:=EJ a b c d++zEu (a+2) (a+1) b
def Tn (a b c d:Nat):List TO:=kr a b++EE (a+2) c d (a+1)
def Tp (a b:Nat):List TO:=S9 a++bV a b a
def EP (a b c d:Nat):List TO:=dw a b c++ai (a+1) d
def Tq (a b c d e:Nat):List TO:=XM a b c d++kS e a (a+1)
def Tt (a b c d e f:Nat):List TO:=bF a b c++EL (a+2) d (a+1) e f
def Jp (a b c:Nat):List TO:=eU a b++ai (a+1) c
def Jq (a b c d:Nat):List TO:=ai a b++eQ (a+1) c d
def zMg (a b c d e:Nat):List TO:=Tf a b c++zBf (a+2) b d e (a+1)
abbrev XT:=Int × List Int × List (Int × Int) × List (List Int) × List Int × Int × Int × Int × Int × Int × Int × Int × List (Int × Int) × Int × List (Int × Int × Int × Int × Int × Int) × List (Int × Int × (List (Int × Int × Int × Bool)) × Int × Bool × (List (Int × Int)) × (List Int))
abbrev Zt1:=Int × (Int × List Int × List (Int × Int) × List (List Int) × List Int × Int × Int × Int × Int × Int × Int × Int × List (Int × Int) × Int × List (Int × Int × Int × Int × Int × Int))
abbrev Zt2:=Int × List Int × List (Int × Int) × List (List Int) × List Int × Int × Int × Int × Int × Int × Int × Int × List (Int × Int) × Int × List (Int × Int × Int × Int × Int × Int) × Int
abbrev dR:=Int × List Int × List (Int × Int) × List (List Int) × List Int × Int × Int × Int × Int × Int × Int × Int × List (Int × Int) × Int × List (Int × Int × Int × Int × Int × Int)
abbrev Zt4:=Int × Int × List (Int × Int × Int × Bool) × Int × Bool × List (Int × Int) × List Int × Int × Bool × List (Int × Int) × List Int × Int
abbrev Zt5:=Int × Int × (List (Int × Int × Int × Bool)) × Int × Bool × (List (Int × Int)) × (List Int)
abbrev mJ:=Int × Int × List (Int × Int × Int × Bool) × Int × Bool × List (Int × Int) × List Int
abbrev Zt7:=Int × Int × Int × Int × Int × Int × Int × List (Int × Int) × Int
abbrev Zt8:=Int × List (Int × Int × Int × Bool) × Int × Int × Bool × Bool
abbrev Zt9:=Int × List (Int × Int × Int × Bool) × Bool
abbrev iC:=Int × Bool × List (Int × Int) × List Int
abbrev bK:=Int × List (Int × Int × Int × Bool)
abbrev lU:=Int × Int × List (Int × Int) × Int
abbrev nL:=Int × Int × Int × Int × Int × Int
abbrev fF:=Int × Int × Int × Bool
abbrev kJ:=Int × List (Int × Int)
abbrev uu:=Int × List (List Int)
abbrev nM:=Int × Int × Int × Int
abbrev aF:=Int × Int
end Go.Fw
namespace Go.Fw
noncomputable section
def aa0:TC:=
 (zS [aZ 2] (zS [tO 3 0 3,SS 5 4 1048576,ai 2 5] .ret))
def ajH:aI:=⟨[.rd false dF],(.one false [.d])⟩
def aa1:aH:=aA []
def ajI (n:Nat):List (Int)->Option ((Bool) × Unit):=aC n aa1 aa0 [[.sl [.i .u8]]] [.b] [] [2] .no
def aa2:=ajI BIG
def ajJ:TSp:=⟨ajH,[[.sl [.i .u8]]],[.b],[],Ou.j .no,aa2⟩
theorem aqr:aM PG aa1 7 ajH (aa0.ht 6) .no=some (aa0.wc aa1,[2]):=by kernel_rfl
theorem aol:ajJ.Ok PG 7:=aN (aj PG) aqr (by kernel_rfl)
theorem aqs (n) (a0):ajI n a0 = some (decide ((1048576:Int)<(a0.length:Int)),()):=by kernel_rfl
def Km:TC:=
 (zS [[o1 2 (.nl)]] (zS [tO 5 0 5,SY 7 13501 6,ai 3 7] (zQ (.join [⟨3,[.i .i64],false⟩] 268435224 none (zS [bD 4] (.block 0 (.loop [⟨3,[.i .i64],false⟩,⟨4,[.i .i64],false⟩] 268435224 (zQ (.seq (.join [⟨15,[.b],false⟩] 65280 none (zR [cB 8 4 0,tL 10 9 8,Jq 12 11 4 4,zAi 14 13 4000 4,lF 12 14 15])) (zC 15 .skip (.exit 0))) (zQ (.block 1 (zR [ai 18 3,zAk 19 18 131,OC 20 0 4 1,[o1 24 (.data (.conv .i64) [.t 23])],zAo 25 19 24,[o1 26 (.data (.bin .add) [.t 25,kD 7])],zAp 27 26 1073741823,ai 3 27])) (zR [dZ 16 4 4]))))))) (zS [cB 28 0 3,[o1 30 (.build bg [(0,.t 28),(2,.t 29)])],bW 31 30,[⟨true,[],[],.det 2 (.copy 31),[2,31],(some 2),none⟩]] .ret))))
def XU:aI:=⟨[.rd false dF],(.bx [.sl (.ro [0]) [.d],.d,.d])⟩
def Kn:aH:=aA []
def Ko (n:Nat):List (Int)->Option ((List Int × Int × Int) × Unit):=aC n Kn Km [[.sl [.i .u8]]] bg [] [2] .no
def AQ:=Ko BIG
def XV:TSp:=⟨XU,[[.sl [.i .u8]]],bg,[],Ou.j .no,AQ⟩
theorem ajK:aM PG Kn 37 XU (Km.ht 32) .no=some (Km.wc Kn,[2]):=by kernel_rfl
theorem agH:XV.Ok PG 37:=aN (aj PG) ajK (by kernel_rfl)
theorem ajL (n) (a0):Ko n a0 = (aJ n (X:=Int × Int) (B:=Int) (fun self1 x0=> (bif decide (x0.2<(a0.length:Int)) then some (decide (x0.2<(4000:Int))) else some false:Option (Bool)).bind fun x2=> bif x2 then bnd a0.length x0.2 fun n3=> a0[n3]?.bind fun y4=> self1 (bits .and .i64 (IntKind.wrap .i64 ((IntKind.wrap .i64 ((IntKind.wrap .i64 (x0.1*(131:Int)))+(IntKind.wrap .i64 (y4))))+(7:Int))) (1073741823:Int),IntKind.wrap .i64 (x0.2+(1:Int))) else some x0.1) (IntKind.wrap .i64 ((13501:Int)+(a0.length:Int)),(0:Int)):Option (Int)).bind fun x5=> some ((a0,(0:Int),x5),()):=by kernel_rfl
def FN:TC:=
 (zS [bD 2] (zS [bN 4,bN 5,kQ 6 5,yJ 7 6,EE 8 0 2 7,zAk 9 8 6364136223846793005,[o1 10 (.data (.bin .add) [.t 9,kD 1442695040888963407])],kr 11 4,zAw 0 0 2 12 10] (zS [bN 13,bN 18,Tn 14 13 0 2,zAx 17 16 33,Tn 19 18 0 2,zAx 22 21 45,[o1 23 (.data (.bin .xor) [.t 17,.t 22])],zAp 24 23 255,ai 3 24] (zQ (.join [⟨3,[.i .i64],false⟩,⟨0,bg,false⟩] 144115188042301449 none (zS [bN 25,bN 29,Tn 26 25 0 1,Tn 30 29 0 0,tL 33 32 28] (zC 34 (zS [ai 35 3,bN 36,bN 40,Tn 37 36 0 0,Tn 41 40 0 1,ku 44 39 43 1,[o1 46 (.data (.conv .i64) [.t 45])],zAo 47 35 46,zAp 48 47 255,ai 3 48] (zR [bN 49,bN 50,Tn 51 50 0 1,yI 54 53,kr 55 49,zAw 0 0 1 56 54])) .skip))) (zS [ai 57 3,ai 2 57] .ret)))))
def Tu:aI:=⟨[.mp [.sl (.ro []) [.d],.d,.d]],(.one false [.d])⟩
def FO:aH:=aA []
def FP (n:Nat):(List Int × Int × Int)->Option ((Int) × List Int × Int × Int):=aC n FO FN [bg] [.i .i64] bg [2] (.mp 0)
def jS:=FP BIG
def Tv:TSp:=⟨Tu,[bg],[.i .i64],bg,Ou.j (.mp 0),jS⟩
theorem agI:aM PG FO 111 Tu (FN.ht 58) (.mp 0)=some (FN.wc FO,[2]):=by kernel_rfl
theorem ac0:Tv.Ok PG 111:=aN (aj PG) agI (by kernel_rfl)
theorem agJ (n) (a0):FP n a0 = bif decide ((33:Int)<0) then none else bif decide ((45:Int)<0) then none else (bif decide (a0.2.1<(a0.1.length:Int)) then bnd a0.1.length a0.2.1 fun n0=> a0.1[n0]?.bind fun y1=> some (bits .and .i64 (IntKind.wrap .i64 ((bits .and .i64 (bits .xor .i64 (Int.fdiv (IntKind.wrap .i64 ((IntKind.wrap .i64 (a0.2.2*(6364136223846793005:Int)))+(1442695040888963407:Int))) (2 ^ (Nat.min (Int.toNat (33:Int)) (IntKind.bits .i64)))) (Int.fdiv (IntKind.wrap .i64 ((IntKind.wrap .i64 (a0.2.2*(6364136223846793005:Int)))+(1442695040888963407:Int))) (2 ^ (Nat.min (Int.toNat (45:Int)) (IntKind.bits .i64))))) (255:Int))+(IntKind.wrap .i64 (y1)))) (255:Int),(a0.1,IntKind.wrap .i64 (a0.2.1+(1:Int)),IntKind.wrap .i64 ((IntKind.wrap .i64 (a0.2.2*(6364136223846793005:Int)))+(1442695040888963407:Int)))) else some (bits .and .i64 (bits .xor .i64 (Int.fdiv (IntKind.wrap .i64 ((IntKind.wrap .i64 (a0.2.2*(6364136223846793005:Int)))+(1442695040888963407:Int))) (2 ^ (Nat.min (Int.toNat (33:Int)) (IntKind.bits .i64)))) (Int.fdiv (IntKind.wrap .i64 ((IntKind.wrap .i64 (a0.2.2*(6364136223846793005:Int)))+(1442695040888963407:Int))) (2 ^ (Nat.min (Int.toNat (45:Int)) (IntKind.bits .i64))))) (255:Int),(a0.1,a0.2.1,IntKind.wrap .i64 ((IntKind.wrap .i64 (a0.2.2*(6364136223846793005:Int)))+(1442695040888963407:Int)))):Option (Int × (List Int × Int × Int))).bind fun x2=> some (x2.1,x2.2):=by kernel_rfl
def BP:TC:=
 (zS [bD 4] (zQ (zS [ai 9 1,zAy 10 9 0] (zC 10 (zS [bD 4] .ret) .skip)) (zQ (zS [ai 11 1,zAy 12 11 256] (zC 12 (zS [bN 13,zAz 111 14 14,ai 15 1,zAA 16 14 15,ai 4 16] .ret) .skip)) (zS [bN 17,zAz 111 18 18,ai 5 18] (zS [bN 19,zAz 111 20 20,ai 6 20] (zS [bN 21,zAz 111 22 22,ai 7 22] (zS [bN 23,zAz 111 24 24,ai 8 24] (zS [ai 25 5,zAk 26 25 16777216,ai 27 6,zAk 28 27 65536,zAo 29 26 28,ai 30 7,zAk 31 30 256,zAo 32 29 31,ai 33 8,zAo 34 32 33,ai 35 1,zAA 36 34 35,ai 4 36] .ret))))))))
def OP:aI:=⟨[.mp [.sl (.ro []) [.d],.d,.d],.rd false [.d]],(.one false [.d])⟩
def BQ:aH:=aA [(111,Tv)]
def BR (n:Nat):(List Int × Int × Int) × Int->Option ((Int) × List Int × Int × Int):=aC n BQ BP [bg,[.i .i64]] [.i .i64] bg [4] (.mp 0)
def bA:=BR BIG
def dY:TSp:=⟨OP,[bg,[.i .i64]],[.i .i64],bg,Ou.j (.mp 0),bA⟩
theorem ac1:aM PG BQ 112 OP (BP.ht 37) (.mp 0)=some (BP.wc BQ,[4]):=by kernel_rfl
theorem dU:dY.Ok PG 112:=aN (ae ac0 (aj PG)) ac1 (by kernel_rfl)
theorem ac2 (n) (a0) (a1):BR n (a0,a1) = bif decide (a1<=(0:Int)) then some ((0:Int),a0) else bif decide (a1<=(256:Int)) then (jS a0).bind fun r0=> bif decide (a1=0) then none else some (Int.tmod r0.1 a1,r0.2) else (jS a0).bind fun r1=> (jS r1.2).bind fun r2=> (jS r2.2).bind fun r3=> (jS r3.2).bind fun r4=> bif decide (a1=0) then none else some (Int.tmod (IntKind.wrap .i64 ((IntKind.wrap .i64 ((IntKind.wrap .i64 ((IntKind.wrap .i64 (r1.1*(16777216:Int)))+(IntKind.wrap .i64 (r2.1*(65536:Int)))))+(IntKind.wrap .i64 (r3.1*(256:Int)))))+r4.1)) a1,r4.2):=by kernel_rfl
def VQ:TC:=
 (zS [bD 2] (zS [EO 3 112 11,SY 5 2 4,ai 2 5] .ret))
def afm:aI:=⟨[.mp [.sl (.ro []) [.d],.d,.d]],(.one false [.d])⟩
def VR:aH:=aA [(112,dY)]
def VS (n:Nat):(List Int × Int × Int)->Option ((Int) × List Int × Int × Int):=aC n VR VQ [bg] [.i .i64] bg [2] (.mp 0)
def NS:=VS BIG
def afn:TSp:=⟨afm,[bg],[.i .i64],bg,Ou.j (.mp 0),NS⟩
theorem aom:aM PG VR 116 afm (VQ.ht 6) (.mp 0)=some (VQ.wc VR,[2]):=by kernel_rfl
theorem al5:afn.Ok PG 116:=aN (ae dU (aj PG)) aom (by kernel_rfl)
theorem aon (n) (a0):VS n a0 = (bA (a0,(11:Int))).bind fun r0=> some (IntKind.wrap .i64 ((2:Int)+r0.1),r0.2):=by kernel_rfl
def QG:TC:=
 (zS [aZ 6] (zQ (.join [⟨6,[.b],false⟩] 32704 none (zR [cB 7 0 1,zAC 9 7 8,Jq 10 9 0 3,eQ 12 2 3,zAD,kU 10 13 14 6])) .ret))
def aa3:aI:=⟨[.rd false [.d],.rd false [.d],.rd false [.d]],(.one false [.d])⟩
def QH:aH:=aA []
def QI (n:Nat):Int × Int × Int->Option ((Bool) × Unit):=aC n QH QG [[.i .i64],[.i .i64],[.i .i64]] [.b] [] [6] .no
def bf:=QI BIG
def dG:TSp:=⟨aa3,[[.i .i64],[.i .i64],[.i .i64]],[.b],[],Ou.j .no,bf⟩
theorem al6:aM PG QH 42 aa3 (QG.ht 15) .no=some (QG.wc QH,[6]):=by kernel_rfl
theorem dA:dG.Ok PG 42:=aN (aj PG) al6 (by kernel_rfl)
theorem al7 (n) (a0) (a1) (a2):QI n (a0,a1,a2) = (bif decide (a1<=a0) then some (decide (a0<=a2)) else some false:Option (Bool)).bind fun x0=> some (x0,()):=by kernel_rfl
def yM:TC:=
 (zS [EF 4] (zS [Tp 11 5] (zQ (.join [⟨5,[.sl [.i .i64]],false⟩] 2093152 none (zS [bD 6] (.block 0 (.loop [⟨5,[.sl [.i .i64]],false⟩,⟨6,[.i .i64],false⟩] 2093152 (zQ (zS [OD 12 6 0] (zC 14 .skip (.exit 0))) (zQ (.block 1 (zR [bV 5 17 5,ai 18 6,Ke 19 18,Kh 17 19 20 17 5])) (zR [dZ 15 6 6]))))))) (zQ (.join [⟨5,[.sl [.i .i64]],false⟩] 1180591620717409208224 none (zS [bD 7] (.block 2 (.loop [⟨5,[.sl [.i .i64]],false⟩,⟨7,[.i .i64],false⟩] 1180591620717409208224 (zQ (zS [OD 21 7 0] (zC 23 .skip (.exit 2))) (zQ (.join [⟨5,[.sl [.i .i64]],false⟩] 1180591620717344196384 none (.block 3 (zS [bD 8] (.block 4 (.loop [⟨5,[.sl [.i .i64]],false⟩,⟨8,[.i .i64],false⟩] 1180591620717344196384 (zQ (zS [AL 26 8 1] (zC 29 .skip (.exit 4))) (zQ (.join [⟨5,[.sl [.i .i64]],false⟩] 1180591620713116337696 none (.block 5 (zS [eU 32 5,cB 33 1 8,XQ 35 33 34 2,EL 38 32 37 5 1,ai 9 39] (zS [eU 40 5,cB 41 1 8,zMg 43 41 42 2 1,EL 46 40 45 5 1,ai 10 47] (zQ (.join [⟨5,[.sl [.i .i64]],false⟩] 576180381133307936 none (zS [ai 48 9,ai 49 10,eD 50 48 49] (zC 50 (zR [eU 51 5,cB 52 1 8,zMg 54 52 53 2 1,ai 57 9,qb 58 51 56,[o4 1 [5,32,40,51] (.store 5 [(0,1)] 0 (.t 58) (.t 57))]]) .skip))) (zS [OD 59 10 9] (zC 61 (zR [eU 62 5,cB 63 1 8,XQ 65 63 64 2,ai 68 10,qb 69 62 67,XL 5 62 5 0 69 68]) .skip))))))) (zR [dZ 30 8 8])))))))) (zR [dZ 24 7 7]))))))) (zS [qd 5 70 5 4] .ret)))))
def Kq:aI:=⟨[.rd false [.d],.rd false fE],(.one false dF)⟩
def yN:aH:=aA []
def yO (n:Nat):Int × (List aF)->Option ((List Int) × Unit):=aC n yN yM [[.i .i64],[.sl [.i .i64,.i .i64]]] [.sl [.i .i64]] [] [4] .no
def kK:=yO BIG
def mK:TSp:=⟨Kq,[[.i .i64],[.sl [.i .i64,.i .i64]]],[.sl [.i .i64]],[],Ou.j .no,kK⟩
theorem aa4:aM PG yN 142 Kq (yM.ht 71) .no=some (yM.wc yN,[4]):=by kernel_rfl
theorem oD:mK.Ok PG 142:=aN (aj PG) aa4 (by kernel_rfl)
theorem aa5 (n) (a0) (a1):yO n (a0,a1) = (aJ n (X:=(List Int) × Int) (B:=(List Int)) (fun self1 x0=> bif decide (x0.2<a0) then bif decide (x0.1.length+[x0.2].length<=4294967296) then self1 (x0.1++[x0.2],IntKind.wrap .i64 (x0.2+(1:Int))) else none else some x0.1) ([],(0:Int)):Option ((List Int))).bind fun x2=> (aJ n (X:=(List Int) × Int) (B:=(List Int)) (fun self4 x3=> bif decide (x3.2<a0) then (aJ n (X:=(List Int) × Int) (B:=(List Int)) (fun self6 x5=> bif decide (x5.2<(a1.length:Int)) then (bnd a1.length x5.2 fun n7=> a1[n7]?.bind fun y8=> bnd x5.1.length y8.1 fun n9=> x5.1[n9]?.bind fun y10=> bnd a1.length x5.2 fun n11=> a1[n11]?.bind fun y12=> bnd x5.1.length y12.2 fun n13=> x5.1[n13]?.bind fun y14=> (bif decide (y10<y14) then bnd a1.length x5.2 fun n15=> a1[n15]?.bind fun y16=> bnd x5.1.length y16.2 fun n17=> x5.1[n17]?.bind fun y18=> some (x5.1.set n17 y10) else some x5.1:Option ((List Int))).bind fun x19=> bif decide (y14<y10) then bnd a1.length x5.2 fun n20=> a1[n20]?.bind fun y21=> bnd x19.length y21.1 fun n22=> x19[n22]?.bind fun y23=> some (x19.set n22 y14) else some x19:Option ((List Int))).bind fun x24=> self6 (x24,IntKind.wrap .i64 (x5.2+(1:Int))) else some x5.1) (x3.1,(0:Int)):Option ((List Int))).bind fun x25=> self4 (x25,IntKind.wrap .i64 (x3.2+(1:Int))) else some x3.1) (x2,(0:Int)):Option ((List Int))).bind fun x26=> some (x26,()):=by kernel_rfl
def FQ:TC:=
 (zS [qM 4 1000000005,aZ 5] (zQ (.seq (.join [⟨16,[.b],false⟩] 130560 none (zR [ai 9 0,nH 10 42 9 12,kI 11 10,eZ 13 1 3,Ov 42 13 3 14 14 3,qN 15 14 3 12])) (zC 16 (zS [[o1 17 (.build bC [])],dW 4 17 4 17,aZ 5] .ret) .skip)) (zS [cB 18 0 1,[o1 20 (.make (.t 19) [.i .i64]),o5 (.build bC [(0,.t 18),(4,.t 20)]) 21 20],qM 6 1000000007,dW 6 21 6 21] (zQ (.join [⟨6,bC,false⟩] 68715282624 none (zS [bD 7] (.block 0 (.loop [⟨6,bC,false⟩,⟨7,[.i .i64],false⟩] 68715282624 (zQ (zS [OD 22 7 0] (zC 24 .skip (.exit 0))) (zQ (.block 1 (zR [cB 29 7 1,jr 27 6 1,zAA 31 29 30,SY 32 1 31,Ke 33 32,OH 28 28 33 34 28 28 6 34 6 6 1])) (zR [dZ 25 7 7]))))))) (zQ (.join [⟨6,bC,false⟩] 562881233944896 none (zS [bD 8] (.block 2 (.loop [⟨6,bC,false⟩,⟨8,[.i .i64],false⟩] 562881233944896 (zQ (zS [OD 36 8 1] (zC 38 .skip (.exit 2))) (zQ (.block 3 (zR [ai 43 0,jr 41 6 3,S_ 44,fJ 45 142 43 44,zBw 45 46 45,zBx 42 42 46 47 42 46 42 6 47,Tg 48 6 47 42 6 3 47])) (zR [dZ 39 8 8]))))))) (zS [nY 49 6 15 4 4 6,gH 5] .ret))))))
def Tw:aI:=⟨[.rd false [.d],.rd false [.d]],(.tup [(true,15),(false,1)] Ct0)⟩
def FR:aH:=aA [(42,dG),(142,mK)]
def FU (n:Nat):Int × Int->Option ((Int × List Int × List aF × List (List Int) × List Int × Int × Int × Int × Int × Int × Int × Int × List aF × Int × List nL × Bool) × Unit):=aC n FR FQ [[.i .i64],[.i .i64]] [.i .i64,.sl [.i .i64],.sl [.i .i64,.i .i64],.sl [.sl [.i .i64]],.sl [.i .i64],.i .i64,.i .i64,.i .i64,.i .i64,.i .i64,.i .i64,.i .i64,.sl [.i .i64,.i .i64],.i .i64,.sl XJ,.b] [] [4,5] .no
def FV:=FU BIG
def Tx:TSp:=⟨Tw,[[.i .i64],[.i .i64]],[.i .i64,.sl [.i .i64],.sl [.i .i64,.i .i64],.sl [.sl [.i .i64]],.sl [.i .i64],.i .i64,.i .i64,.i .i64,.i .i64,.i .i64,.i .i64,.i .i64,.sl [.i .i64,.i .i64],.i .i64,.sl XJ,.b],[],Ou.j .no,FV⟩
theorem agK:aM PG FR 110 Tw (FQ.ht 50) .no=some (FQ.wc FR,[4,5]):=by kernel_rfl
theorem ac3:Tx.Ok PG 110:=aN (ae dA (ae oD (aj PG))) agK (by kernel_rfl)
theorem agL (n) (a0) (a1):FU n (a0,a1) = ((bf (a0,(1:Int),(12:Int))).bind fun r0=> bif !r0.1 then some true else (bf (a1,(1:Int),(3:Int))).bind fun r1=> some !r1.1:Option (Bool)).bind fun x2=> bif x2 then some (((0:Int),[],[],[],[],(0:Int),(0:Int),(0:Int),(0:Int),(0:Int),(0:Int),(0:Int),[],(0:Int),[],false),()) else bif decide (0<=a1) then bif decide ((Int.toNat a1)<=4294967296) then (aJ n (X:=dR × Int) (B:=dR) (fun self4 x3=> bif decide (x3.2<a0) then bif decide (a1=0) then none else bif decide (x3.1.2.1.length+([IntKind.wrap .i64 ((1:Int)+(Int.tmod x3.2 a1))]).length<=4294967296) then self4 ((x3.1.1,x3.1.2.1++([IntKind.wrap .i64 ((1:Int)+(Int.tmod x3.2 a1))]),x3.1.2.2),IntKind.wrap .i64 (x3.2+(1:Int))) else none else some x3.1) ((a0,[],[],[],List.replicate (Int.toNat a1) (0:Int),(0:Int),(0:Int),(0:Int),(0:Int),(0:Int),(0:Int),(0:Int),[],(0:Int),[]),(0:Int)):Option (dR)).bind fun x5=> (aJ n (X:=dR × Int) (B:=dR) (fun self7 x6=> bif decide (x6.2<a1) then (kK (a0,[])).bind fun r8=> bif decide (x6.1.2.2.2.1.length+[r8.1].length<=4294967296) then self7 ((x6.1.1,x6.1.2.1,x6.1.2.2.1,x6.1.2.2.2.1++[r8.1],x6.1.2.2.2.2),IntKind.wrap .i64 (x6.2+(1:Int))) else none else some x6.1) (x5,(0:Int)):Option (dR)).bind fun x9=> some ((x9.1,x9.2.1,x9.2.2.1,x9.2.2.2.1,x9.2.2.2.2.1,x9.2.2.2.2.2.1,x9.2.2.2.2.2.2.1,x9.2.2.2.2.2.2.2.1,x9.2.2.2.2.2.2.2.2.1,x9.2.2.2.2.2.2.2.2.2.1,x9.2.2.2.2.2.2.2.2.2.2.1,x9.2.2.2.2.2.2.2.2.2.2.2.1,x9.2.2.2.2.2.2.2.2.2.2.2.2.1,x9.2.2.2.2.2.2.2.2.2.2.2.2.2.1,x9.2.2.2.2.2.2.2.2.2.2.2.2.2.2,true),()) else none else none:=by kernel_rfl
def Kr:TC:=
 (zS [EG 2 1000000003,aZ 3] (zQ (zS [ai 4 0,nH 5 42 4 12,iH 6 5] (zC 6 (zS [zBC 7,dW 2 7 2 7,aZ 3] .ret) .skip)) (zS [ai 8 0,zBD 9 8,dW 2 9 2 9,gH 3] .ret)))
def XW:aI:=⟨[.rd false [.d]],(.tup [(true,2),(false,1)] Ct5)⟩
def Kt:aH:=aA [(42,dG)]
def Ku (n:Nat):Int->Option (Zt9 × Unit):=aC n Kt Kr [[.i .i64]] VP [] [2,3] .no
def Kv:=Ku BIG
def XX:TSp:=⟨XW,[[.i .i64]],VP,[],Ou.j .no,Kv⟩
theorem ajM:aM PG Kt 179 XW (Kr.ht 10) .no=some (Kr.wc Kt,[2,3]):=by kernel_rfl
theorem agM:XX.Ok PG 179:=aN (ae dA (aj PG)) ajM (by kernel_rfl)
theorem ajN (n) (a0):Ku n a0 = (bf (a0,(1:Int),(12:Int))).bind fun r0=> bif !r0.1 then some (((0:Int),[],false),()) else some ((a0,[],true),()):=by kernel_rfl
def BS:TC:=
 (zS [zBE 4 1000000005,aZ 5] (zS [ai 9 1,dX 10 179 9,bV 10 8 10,zDb 8 2 11 8,zDc 12 8 2,EG 6 1000000007,vZ 6 11 6 11] (zQ (.seq (.join [⟨19,[.b],false⟩] 1040384 none (zR [ai 13 7,kI 14 13,eZ 16 0 2,Ov 42 16 3 17 17 2,qN 18 17 2 15])) (zC 19 (zS [zDd 20,dW 4 20 4 20,aZ 5] .ret) .skip)) (zS [ai 21 0,gP 22 6 2,[⟨false,[22],[],.det 2 (.build gF [(0,.t 21),(1,.t 22)]),[23,22,22,6],(some 23),none⟩],dW 4 23 4 23,gH 5] .ret))))
def OQ:aI:=⟨[.rd false [.d],.rd false [.d]],(.tup [(true,7),(false,1)] [.d,.d,.sl (.own none) [.d,.d,.d,.d],.d,.d,.sl (.own none) [.d,.d],.sl (.own none) [.d],.d])⟩
def BU:aH:=aA [(179,XX),(42,dG)]
def BX (n:Nat):Int × Int->Option ((Int × Int × List fF × Int × Bool × List aF × List Int × Bool) × Unit):=aC n BU BS [[.i .i64],[.i .i64]] [.i .i64,.i .i64,.sl kH,.i .i64,.b,.sl [.i .i64,.i .i64],.sl [.i .i64],.b] [] [4,5] .no
def BZ:=BX BIG
def OT:TSp:=⟨OQ,[[.i .i64],[.i .i64]],[.i .i64,.i .i64,.sl kH,.i .i64,.b,.sl [.i .i64,.i .i64],.sl [.i .i64],.b],[],Ou.j .no,BZ⟩
theorem ac4:aM PG BU 114 OQ (BS.ht 24) .no=some (BS.wc BU,[4,5]):=by kernel_rfl
theorem aa6:OT.Ok PG 114:=aN (ae agM (ae dA (aj PG))) ac4 (by kernel_rfl)
theorem ac5 (n) (a0) (a1):BX n (a0,a1) = (Kv a1).bind fun r0=> (bif !r0.1.2.2 then some true else (bf (a0,(1:Int),(3:Int))).bind fun r1=> some !r1.1:Option (Bool)).bind fun x2=> bif x2 then some (((0:Int),(0:Int),[],(0:Int),false,[],[],false),()) else some ((a0,r0.1.1,r0.1.2.1,(0:Int),false,[],[],true),()):=by kernel_rfl
def FW:TC:=
 (zS [bD 2] (zS [tO 4 0 4,[o1 6 (.data (.bin .quo) [.t 5,kD 4])],SY 7 12 6,ai 3 7] (zQ (zS [ai 8 3,SS 9 8 60] (zC 9 (zS [kg 2 60] .ret) .skip)) (zS [ai 10 3,ai 2 10] .ret))))
def Ty:aI:=⟨[.rd false dF],(.one false [.d])⟩
def FX:aH:=aA []
def FY (n:Nat):List (Int)->Option ((Int) × Unit):=aC n FX FW [[.sl [.i .u8]]] [.i .i64] [] [2] .no
def FZ:=FY BIG
def Tz:TSp:=⟨Ty,[[.sl [.i .u8]]],[.i .i64],[],Ou.j .no,FZ⟩
theorem agN:aM PG FX 117 Ty (FW.ht 11) .no=some (FW.wc FX,[2]):=by kernel_rfl
theorem ac6:Tz.Ok PG 117:=aN (aj PG) agN (by kernel_rfl)
theorem agO (n) (a0):FY n a0 = bif decide ((4:Int)=0) then none else bif decide ((60:Int)<(IntKind.wrap .i64 ((12:Int)+(IntKind.wrap .i64 (Int.tdiv (a0.length:Int) (4:Int)))))) then some ((60:Int),()) else some (IntKind.wrap .i64 ((12:Int)+(IntKind.wrap .i64 (Int.tdiv (a0.length:Int) (4:Int)))),()):=by kernel_rfl
def VT:TC:=
 (zS [iK 1 0] (zS [d_ 3,yJ 4 3,EE 5 1 9 4,zDf 6 5 0,ai 2 6] .ret))
def afo:aI:=⟨[.rd true l6],(.one false [.d])⟩
def VU:aH:=aA []
def afp (n:Nat):dR->Option ((Bool) × Unit):=aC n VU VT [bC] [.b] [] [2] .no
def nz:=afp BIG
def EQ:TSp:=⟨afo,[bC],[.b],[],Ou.j .no,nz⟩
theorem aoo:aM PG VU 39 afo (VT.ht 7) .no=some (VT.wc VU,[2]):=by kernel_rfl
theorem F3:EQ.Ok PG 39:=aN (aj PG) aoo (by kernel_rfl)
theorem aop (n) (a0):afp n a0 = some (!decide (a0.2.2.2.2.2.2.2.2.2.1=(0:Int)),()):=by kernel_rfl
def F4:TC:=
 (zS [bW 1 0,Ta 2 1000000003] (zS [fK 5 1 0 5,zDh 7 6,Ta 3 1000000004,dW 3 7 3 7] (zQ (.join [⟨3,gI,false⟩] 8589934360 none (zS [bD 4] (.block 0 (.loop [⟨3,gI,false⟩,⟨4,[.i .i64],false⟩] 8589934360 (zQ (zS [ai 8 4,fK 9 1 1 9,tL 11 10 8] (zC 12 .skip (.exit 0))) (zQ (.block 1 (zR [ai 19 4,ai 25 4,jr 15 3 1,bF 17 1 1,XQ 20 18 19 4,bF 23 1 1,zMg 26 24 25 4 1,AA 29 22 28,Kg 30 29,OH 16 16 30 31 16 16 3 31 3 3 1])) (zR [dZ 13 4 4]))))))) (zS [nY 33 3 2 2 2 3] .ret))))
def TA:aI:=⟨[.rd true qa],(.one true Ot)⟩
def F5:aH:=aA []
def F6 (n:Nat):bK->Option (kJ × Unit):=aC n F5 F4 [bv] gI [] [2] .no
def iX:=F6 BIG
def qQ:TSp:=⟨TA,[bv],gI,[],Ou.j .no,iX⟩
theorem agP:aM PG F5 123 TA (F4.ht 34) .no=some (F4.wc F5,[2]):=by kernel_rfl
theorem uY:qQ.Ok PG 123:=aN (aj PG) agP (by kernel_rfl)
theorem agQ (n) (a0):F6 n a0 = (aJ n (X:=kJ × Int) (B:=kJ) (fun self1 x0=> bif decide (x0.2<(a0.2.length:Int)) then bnd a0.2.length x0.2 fun n2=> a0.2[n2]?.bind fun y3=> bnd a0.2.length x0.2 fun n4=> a0.2[n4]?.bind fun y5=> bif decide (x0.1.2.length+([(y3.1,y5.2.1)]).length<=4294967296) then self1 ((x0.1.1,x0.1.2++([(y3.1,y5.2.1)])),IntKind.wrap .i64 (x0.2+(1:Int))) else none else some x0.1) ((a0.1,[]),(0:Int)):Option (kJ)).bind fun x6=> some (x6,()):=by kernel_rfl
def Kw:TC:=
 (zS [iK 3 1] (zQ (.join [⟨4,[.b],false⟩] 268435440 none (zR [ai 5 0,nH 6 42 5 12,ai 7 6,ko 8 2,tF 9 3 0 8 2,eQ 10 0 2,zLC 11 10 2 42 9 2,kS 7 12 13,tN 15 9 3 1 9,eQ 17 0 9,zLC 18 17 9 42 16 9,kS 14 19 20,Kj 22 16 3 0 3 1,zDp 26 23 25 16,kU 21 26 27 4])) .ret))
def XY:aI:=⟨[.rd false [.d],.rd true [.d,.d]],(.one false [.d])⟩
def Ky:aH:=aA [(42,dG)]
def Kz (n:Nat):Int × aF->Option ((Bool) × Unit):=aC n Ky Kw [[.i .i64],[.i .i64,.i .i64]] [.b] [] [4] .no
def qg:=Kz BIG
def v_:TSp:=⟨XY,[[.i .i64],[.i .i64,.i .i64]],[.b],[],Ou.j .no,qg⟩
theorem ajO:aM PG Ky 128 XY (Kw.ht 28) .no=some (Kw.wc Ky,[4]):=by kernel_rfl
theorem xC:v_.Ok PG 128:=aN (ae dA (aj PG)) ajO (by kernel_rfl)
theorem ajP (n) (a0) (a1):Kz n (a0,a1) = ((bf (a0,(1:Int),(12:Int))).bind fun r0=> bif r0.1 then (bf (a1.1,(0:Int),IntKind.wrap .i64 (a0-(1:Int)))).bind fun r1=> bif r1.1 then (bf (a1.2,(0:Int),IntKind.wrap .i64 (a0-(1:Int)))).bind fun r2=> bif r2.1 then some (decide (a1.1<a1.2)) else some false else some false else some false:Option (Bool)).bind fun x3=> some (x3,()):=by kernel_rfl
def F7:TC:=
 (zS [bW 2 0,iK 3 1] (zQ (.join [⟨4,[.b],false⟩] 16777200 none (zR [fK 5 2 0 5,fK 7 3 0 7,eD 9 6 8,ai 10 9,iJ 11 5 2 0 5,iJ 13 5 3 0 5,zDs 15 12 14 5,eZ 16 15 5,Kj 17 11 2 1 3 1,zDp 21 18 20 11,AO 16 21 22 22 5 10,ai 4 23])) .ret))
def TB:aI:=⟨[.rd true [.d,.d],.rd true [.d,.d]],(.one false [.d])⟩
def F8:aH:=aA []
def F9 (n:Nat):aF × aF->Option ((Bool) × Unit):=aC n F8 F7 [[.i .i64,.i .i64],[.i .i64,.i .i64]] [.b] [] [4] .no
def qR:=F9 BIG
def F_:TSp:=⟨TB,[[.i .i64,.i .i64],[.i .i64,.i .i64]],[.b],[],Ou.j .no,qR⟩
theorem agR:aM PG F8 187 TB (F7.ht 24) .no=some (F7.wc F8,[4]):=by kernel_rfl
theorem OU:F_.Ok PG 187:=aN (aj PG) agR (by kernel_rfl)
theorem agS (n) (a0) (a1):F9 n (a0,a1) = (bif decide (a0.1<a1.1) then some true else bif decide (a0.1=a1.1) then some (decide (a0.2<a1.2)) else some false:Option (Bool)).bind fun x0=> some (x0,()):=by kernel_rfl
def B_:TC:=
 (zS [aZ 4] (zQ (.join [] 68719476720 (some [⟨4,[.b],false⟩]) (zS [bD 5] (.block 0 (.loop [⟨5,[.i .i64],false⟩] 68719476720 (zQ (zS [cB 6 5 1,je 8 7,eD 9 6 8] (zC 9 .skip (.exit 0))) (zQ (.join [] 68719472656 (some [⟨4,[.b],false⟩]) (.block 1 (zQ (.join [⟨35,[.b],false⟩] 68719472640 none (zR [cB 12 0 1,ai 14 5,jq 15 13 14 2 2,fJ 17 128 12 16,kI 18 17,eZ 20 5 7,zDv 21 20 0 7,eZ 22 21 7,eQ 23 1 10,eQ 24 5 10,zDn 25 24 10,mH 26 23 25 10,zDx 27 23 2 26 2 10,eQ 28 1 10,eQ 29 5 10,mH 30 28 29 10,zDx 31 28 2 30 2 10,kR 187 27 31 32 32 10,zDz 33 32 10,AO 22 33 34 34 7 19])) (zC 35 (zS [aZ 4] .ret) .skip)))) (zR [dZ 10 5 5]))))))) (zS [ai 36 1,je 37 36,zAy 38 37 66,ai 4 38] .ret)))
def OV:aI:=⟨[.rd false [.d],.rd false fE],(.one false [.d])⟩
def Ca:aH:=aA [(128,v_),(187,F_)]
def Cb (n:Nat):Int × (List aF)->Option ((Bool) × Unit):=aC n Ca B_ [[.i .i64],[.sl [.i .i64,.i .i64]]] [.b] [] [4] .no
def lJ:=Cb BIG
def nZ:TSp:=⟨OV,[[.i .i64],[.sl [.i .i64,.i .i64]]],[.b],[],Ou.j .no,lJ⟩
theorem ac7:aM PG Ca 139 OV (B_.ht 39) .no=some (B_.wc Ca,[4]):=by kernel_rfl
theorem qU:nZ.Ok PG 139:=aN (ae xC (ae OU (aj PG))) ac7 (by kernel_rfl)
theorem ac8 (n) (a0) (a1):Cb n (a0,a1) =
 (aJ n (X:=Int) (B:=(Unit) ⊕ (Bool)) (fun self1 x0=>
  bif decide (x0<(a1.length:Int)) then
   ((bnd a1.length x0 fun n2=>
    a1[n2]?.bind fun y3=>
    (qg (a0,y3)).bind fun r4=>
    bif !r4.1 then
     some true
    else bif decide ((0:Int)<x0) then
     bnd a1.length (IntKind.wrap .i64 (x0-(1:Int))) fun n5=>
     a1[n5]?.bind fun y6=>
     bnd a1.length x0 fun n7=>
     a1[n7]?.bind fun y8=>
     (qR (y6,y8)).bind fun r9=>
     some !r9.1
    else some false:Option (Bool)).bind fun x10=>
    bif x10 then
     some (Sum.inr false)
    else some (Sum.inl ()):Option ((Unit) ⊕ (Bool))).bind fun y=>match y with
   | .inl x11=>
    self1 (IntKind.wrap .i64 (x0+(1:Int)))
   | .inr x11=>
    some (Sum.inr x11)
  else some (Sum.inl ())) (0:Int):Option ((Unit) ⊕ (Bool))).bind fun y=>match y with
 | .inl x12=>
  some (decide ((a1.length:Int)<=(66:Int)),())
 | .inr x12=>
  some (x12,()):=by kernel_rfl
def Ga:TC:=
 (zS [iK 1 0] (zQ (.join [⟨2,[.b],false⟩] 8188 none (zR [fK 3 1 0 3,nH 5 42 4 12,ai 6 5,ko 7 3,tF 8 1 0 7 3,ko 9 3,tF 10 1 1 9 3,kR 139 8 10 11 11 3,kU 6 11 12 2])) .ret))
def TD:aI:=⟨[.rd true Ot],(.one false [.d])⟩
def Gb:aH:=aA [(42,dG),(139,nZ)]
def Gc (n:Nat):kJ->Option ((Bool) × Unit):=aC n Gb Ga [gI] [.b] [] [2] .no
def qV:=Gc BIG
def xD:TSp:=⟨TD,[gI],[.b],[],Ou.j .no,qV⟩
theorem agU:aM PG Gb 127 TD (Ga.ht 13) .no=some (Ga.wc Gb,[2]):=by kernel_rfl
theorem Cc:xD.Ok PG 127:=aN (ae dA (ae qU (aj PG))) agU (by kernel_rfl)
theorem agV (n) (a0):Gc n a0 = ((bf (a0.1,(1:Int),(12:Int))).bind fun r0=> bif r0.1 then (lJ (a0.1,a0.2)).bind fun r1=> some r1.1 else some false:Option (Bool)).bind fun x2=> some (x2,()):=by kernel_rfl
def Gd:TC:=
 (zS [bW 2 0,vX 4] (zS [S_ 8,bV 8 5 8] (zQ (.join [⟨5,[.sl [.i .i64,.i .i64]],false⟩] 137438953184 none (zS [bD 6] (.block 0 (.loop [⟨5,[.sl [.i .i64,.i .i64]],false⟩,⟨6,[.i .i64],false⟩] 137438953184 (zQ (zS [OB 9 6 2 1,tL 12 11 9] (zC 13 .skip (.exit 0))) (zQ (.join [⟨5,[.sl [.i .i64,.i .i64]],false⟩] 137438888096 none (.block 1 (zS [AP 16 2 1 6,jq 19 17 18 4 4,Ow 7 1000000008,df 7 7 20] (zQ (.join [⟨28,[.b],false⟩] 534773760 none (zR [bF 21 7 3,qf 23 22 2 7 2 2,eQ 26 1 2,zDD 27 25 26 2,lF 23 27 28])) (zC 28 (zR [bV 5 29 5,kT 30 7 0 7 1,AA 34 31 33,EN 35 34 29 29 5]) .skip))))) (zR [dZ 14 6 6]))))))) (zS [qd 5 37 5 4] .ret))))
def TF:aI:=⟨[.rd true qa,.rd false [.d]],(.one false fE)⟩
def Gf:aH:=aA []
def xE (n:Nat):bK × Int->Option ((List aF) × Unit):=aC n Gf Gd [bv,[.i .i64]] [.sl [.i .i64,.i .i64]] [] [4] .no
def Gg:=xE BIG
def TG:TSp:=⟨TF,[bv,[.i .i64]],[.sl [.i .i64,.i .i64]],[],Ou.j .no,Gg⟩
theorem agW:aM PG Gf 203 TF (Gd.ht 38) .no=some (Gd.wc Gf,[4]):=by kernel_rfl
theorem ac9:TG.Ok PG 203:=aN (aj PG) agW (by kernel_rfl)
theorem TH (n) (a0) (a1):xE n (a0,a1) = (aJ n (X:=(List aF) × Int) (B:=(List aF)) (fun self1 x0=> bif decide (x0.2<(a0.2.length:Int)) then (bnd a0.2.length x0.2 fun n2=> a0.2[n2]?.bind fun y3=> (bif y3.2.2.2 then some (decide (a1<=y3.2.2.1)) else some false:Option (Bool)).bind fun x4=> bif x4 then bif decide (x0.1.length+([(y3.1,y3.2.1)]).length<=4294967296) then some (x0.1++([(y3.1,y3.2.1)])) else none else some x0.1:Option ((List aF))).bind fun x5=> self1 (x5,IntKind.wrap .i64 (x0.2+(1:Int))) else some x0.1) ([],(0:Int)):Option ((List aF))).bind fun x6=> some (x6,()):=by kernel_rfl
def QJ:TC:=
 (zS [aZ 4] (zQ (.join [] 262128 (some [⟨4,[.b],false⟩]) (zS [bD 5] (.block 0 (.loop [⟨5,[.i .i64],false⟩] 262128 (zQ (zS [cB 6 5 0,je 8 7,eD 9 6 8] (zC 9 .skip (.exit 0))) (zQ (.block 1 (zS [OC 12 0 5 1,ai 16 1,mI 17 15 16] (zC 17 (zS [gH 4] .ret) .skip))) (zR [dZ 10 5 5]))))))) (zS [aZ 4] .ret)))
def aa7:aI:=⟨[.rd false dF,.rd false [.d]],(.one false [.d])⟩
def QK:aH:=aA []
def QL (n:Nat):List Int × Int->Option ((Bool) × Unit):=aC n QK QJ [[.sl [.i .i64]],[.i .i64]] [.b] [] [4] .no
def gQ:=QL BIG
def oQ:TSp:=⟨aa7,[[.sl [.i .i64]],[.i .i64]],[.b],[],Ou.j .no,gQ⟩
theorem al8:aM PG QK 204 aa7 (QJ.ht 18) .no=some (QJ.wc QK,[4]):=by kernel_rfl
theorem qh:oQ.Ok PG 204:=aN (aj PG) al8 (by kernel_rfl)
theorem al9 (n) (a0) (a1):QL n (a0,a1) = (aJ n (X:=Int) (B:=(Unit) ⊕ (Bool)) (fun self1 x0=> bif decide (x0<(a0.length:Int)) then bnd a0.length x0 fun n2=> a0[n2]?.bind fun y3=> bif decide (y3=a1) then some (Sum.inr true) else self1 (IntKind.wrap .i64 (x0+(1:Int))) else some (Sum.inl ())) (0:Int):Option ((Unit) ⊕ (Bool))).bind fun y=>match y with | .inl x4=> some (false,()) | .inr x4=> some (x4,()):=by kernel_rfl
def KA:TC:=
 (zS [iK 3 1] (zQ (.join [] 262128 (some [⟨4,[.b],false⟩]) (zS [bD 5] (.block 0 (.loop [⟨5,[.i .i64],false⟩] 262128 (zQ (zS [cB 6 5 0,je 8 7,eD 9 6 8] (zC 9 .skip (.exit 0))) (zQ (.block 1 (zS [OE 12 0 5 2 2,dw 16 3 2,[o1 17 (.eqA [.i,.i] (.t 15) (.t 16) false)]] (zC 17 (zS [gH 4] .ret) .skip))) (zR [dZ 10 5 5]))))))) (zS [aZ 4] .ret)))
def XZ:aI:=⟨[.rd false fE,.rd true [.d,.d]],(.one false [.d])⟩
def KC:aH:=aA []
def AR (n:Nat):(List aF) × aF->Option ((Bool) × Unit):=aC n KC KA [[.sl [.i .i64,.i .i64]],[.i .i64,.i .i64]] [.b] [] [4] .no
def mM:=AR BIG
def qi:TSp:=⟨XZ,[[.sl [.i .i64,.i .i64]],[.i .i64,.i .i64]],[.b],[],Ou.j .no,mM⟩
theorem ajQ:aM PG KC 143 XZ (KA.ht 18) .no=some (KA.wc KC,[4]):=by kernel_rfl
theorem qW:qi.Ok PG 143:=aN (aj PG) ajQ (by kernel_rfl)
theorem X0 (n) (a0) (a1):AR n (a0,a1) = (aJ n (X:=Int) (B:=(Unit) ⊕ (Bool)) (fun self1 x0=> bif decide (x0<(a0.length:Int)) then bnd a0.length x0 fun n2=> a0[n2]?.bind fun y3=> bif (decide (y3.1=a1.1)&&(decide (y3.2=a1.2)&&true)) then some (Sum.inr true) else self1 (IntKind.wrap .i64 (x0+(1:Int))) else some (Sum.inl ())) (0:Int):Option ((Unit) ⊕ (Bool))).bind fun y=>match y with | .inl x4=> some (false,()) | .inr x4=> some (x4,()):=by kernel_rfl
def Gh:TC:=
 (zS [EF 10,aZ 11] (zS [ai 17 2,Ke 18 17,bV 18 12 18] (zS [Jp 19 4 2,qb 21 19 20,zEb 4 19 4 0 1 0 21] (zQ (.join [⟨12,[.sl [.i .i64]],false⟩,⟨4,[.sl [.b]],false⟩] 147573952589672348688 (some [⟨10,[.sl [.i .i64]],false⟩,⟨11,[.b],false⟩,⟨4,[.sl [.b]],false⟩]) (zS [bD 13] (.block 0 (.loop [⟨12,[.sl [.i .i64]],false⟩,⟨4,[.sl [.b]],false⟩,⟨13,[.i .i64],false⟩] 147573952589674445840 (zQ (zS [OD 22 13 0] (zC 24 .skip (.exit 0))) (zQ (.join [⟨12,[.sl [.i .i64]],false⟩,⟨4,[.sl [.b]],false⟩] 147573952589542317072 (some [⟨10,[.sl [.i .i64]],false⟩,⟨11,[.b],false⟩,⟨4,[.sl [.b]],false⟩]) (.block 1 (zS [cB 27 13 2,AA 29 27 28,lG 14 1000000015,df 14 14 29] (zQ (.join [⟨14,[.i .i64,.i .i64],false⟩] 67645751296 none (zS [OD 30 2 13] (zC 32 (zR [cB 33 2 13,AA 35 33 34,df 14 14 35]) .skip))) (zQ (.seq (.join [⟨44,[.b],false⟩] 35115652612096 none (zR [cB 36 13 3,mI 38 36 37,ai 39 38,eZ 40 1 3,OG 41 14 2 3 143 40 3,qN 43 42 3 39])) (zC 44 (.exit 1) .skip)) (zQ (zS [Jp 45 4 13,EL 47 45 46 4 1] (zC 48 (zS [qd 12 49 12 10,gH 11] .ret) .skip)) (zS [cB 51 0 1,cB 53 13 2,eU 55 4,[⟨false,[],[],.call 2 207 [.t 51,.t 52,.t 53,.t 54,.t 55] (.mt 4 [] 0 55 4),[56,4,45,47,55],(some 56),none⟩],OL 56 50 56 1 1,bV 57 15 57,ai 16 58] (zQ (zS [ai 59 16] (zC 59 (zS [qd 12 60 12 10,gH 11] .ret) .skip)) (zR [bV 12 61 12,bV 15 62 15,vU 61 62 63 61,ai 64 2,Ke 65 64,Kh 63 65 66 63 12]))))))))) (zR [OJ 25 13]))))))) (zS [qd 12 67 12 10,aZ 11] .ret)))))
def Gi:aI:=⟨[.rd false [.d],.rd false fE,.rd false [.d],.rd false [.d],.mt false dF],(.tup [(false,1),(false,1)] al4)⟩
def Gj (q:Int × (List aF) × Int × Int × List (Bool)->Option ((List Int × Bool) × List (Bool))):aH:=aA [(143,qi),(207,⟨Gi,[[.i .i64],[.sl [.i .i64,.i .i64]],[.i .i64],[.i .i64],[.sl [.b]]],[.sl [.i .i64],.b],[.sl [.b]],Ou.j (.mt 4 4 0),q⟩)]
def Gl (q:Int × (List aF) × Int × Int × List (Bool)->Option ((List Int × Bool) × List (Bool))) (n:Nat):Int × (List aF) × Int × Int × List (Bool)->Option ((List Int × Bool) × List (Bool)):=aC n (Gj q) Gh [[.i .i64],[.sl [.i .i64,.i .i64]],[.i .i64],[.i .i64],[.sl [.b]]] [.sl [.i .i64],.b] [.sl [.b]] [10,11] (.mt 4 4 0)
def qX:Nat->Int × (List aF) × Int × Int × List (Bool)->Option ((List Int × Bool) × List (Bool))
 | 0=>fun _=>none
 | d+1=>Gl (qX d) BIG
def TI (d:Nat):TSp:=⟨Gi,[[.i .i64],[.sl [.i .i64,.i .i64]],[.i .i64],[.i .i64],[.sl [.b]]],[.sl [.i .i64],.b],[.sl [.b]],Ou.j (.mt 4 4 0),(qX d)⟩
theorem agX (q:Int × (List aF) × Int × Int × List (Bool)->Option ((List Int × Bool) × List (Bool))):aM PG (Gj q) 207 Gi (Gh.ht 68) (.mt 4 4 0)=some (Gh.wc (Gj q),[10,11]):=by kernel_rfl
theorem OW:∀d:Nat,(TI d).Ok PG 207
 | 0=>fun _ _ _ h=>by cases h
 | d+1=>aN (ae qW (ae (OW d) (aj PG))) (agX _) (by kernel_rfl)
theorem agY (q:Int × (List aF) × Int × Int × List (Bool)->Option ((List Int × Bool) × List (Bool))) (n) (a0) (a1) (a2) (a3) (a4):Gl q n (a0,a1,a2,a3,a4) =
 bnd a4.length a2 fun n0=>
 a4[n0]?.bind fun y1=>
 (aJ n (X:=(List Int) × (List (Bool)) × Int) (B:=((List Int) × (List (Bool))) ⊕ ((List Int) × Bool × (List (Bool)))) (fun self3 x2=>
  bif decide (x2.2.2<a0) then
   ((bif decide (a2<x2.2.2) then
     some (a2,x2.2.2)
    else some (x2.2.2,a2):Option (aF)).bind fun x4=>
    (bif decide (x2.2.2=a3) then
     some true
     else (mM (a1,x4)).bind fun r5=>
     some !r5.1:Option (Bool)).bind fun x6=>
    bif x6 then
     some (Sum.inl (x2.1,x2.2.1))
    else bnd x2.2.1.length x2.2.2 fun n7=>
    x2.2.1[n7]?.bind fun y8=>
    bif y8 then
     some (Sum.inr (x2.1,true,x2.2.1))
    else (q (a0,a1,x2.2.2,a2,x2.2.1)).bind fun r9=>
    bif r9.1.2 then
     some (Sum.inr (x2.1,true,r9.2))
    else bif decide (x2.1.length+r9.1.1.length<=4294967296) then
     bif decide ((x2.1++r9.1.1).length+[a2].length<=4294967296) then
      some (Sum.inl ((x2.1++r9.1.1)++[a2],r9.2))
     else none
    else none:Option (((List Int) × (List (Bool))) ⊕ ((List Int) × Bool × (List (Bool))))).bind fun y=>match y with
   | .inl x10=>
    self3 (x10.1,x10.2,IntKind.wrap .i64 (x2.2.2+(1:Int)))
   | .inr x10=>
    some (Sum.inr (x10.1,x10.2.1,x10.2.2))
  else some (Sum.inl (x2.1,x2.2.1))) ([a2],a4.set n0 true,(0:Int)):Option (((List Int) × (List (Bool))) ⊕ ((List Int) × Bool × (List (Bool))))).bind fun y=>match y with
 | .inl x11=>
  some ((x11.1,false),x11.2)
 | .inr x11=>
  some ((x11.1,x11.2.1),x11.2.2):=by kernel_rfl
def KD:TC:=
 (zS [EF 6,aZ 7] (zQ (.seq (.join [⟨20,[.b],false⟩] 2095104 none (zR [ai 11 0,nH 12 42 11 12,kI 13 12,eZ 15 2 3,eZ 16 0 3,zEf 17 16 3,zEg 42 15 0 17 18 18 3,qN 19 18 3 14])) (zC 20 (zS [Tp 21 6,aZ 7] .ret) .skip)) (zQ (.join [] 68715282880 (some [⟨6,[.sl [.i .i64]],false⟩,⟨7,[.b],false⟩]) (zS [bD 8] (.block 0 (.loop [⟨8,[.i .i64],false⟩] 68715282880 (zQ (zS [AL 22 8 1] (zC 25 .skip (.exit 0))) (zQ (.block 1 (zS [cB 28 0 1,ai 30 8,jq 31 29 30 2 2,fJ 33 128 28 32,iH 34 33] (zC 34 (zS [Tp 35 6,aZ 7] .ret) .skip))) (zR [dZ 26 8 8]))))))) (zS [cB 37 0 1,cB 39 2 0,[o1 41 (.make (.t 40) [.b]),⟨false,[],[],.call 2 207 [.t 37,.t 38,.t 39,kO (-1),.t 41] (.mt 41 [] 0 41 4),[42,41],(some 42),none⟩],OL 42 36 42 1 1,bV 43 9 43,ai 10 44] (zQ (zS [ai 45 10] (zC 45 (zS [Tp 46 6,aZ 7] .ret) .skip)) (zS [qd 9 47 9 6,gH 7] .ret))))))
def X3:aI:=⟨[.rd false [.d],.rd false fE,.rd false [.d]],(.tup [(false,1),(false,1)] al4)⟩
def KE:aH:=aA [(42,dG),(128,v_),(207,TI 64)]
def KF (n:Nat):Int × (List aF) × Int->Option ((List Int × Bool) × Unit):=aC n KE KD [[.i .i64],[.sl [.i .i64,.i .i64]],[.i .i64]] [.sl [.i .i64],.b] [] [6,7] .no
def AU:=KF BIG
def X4:TSp:=⟨X3,[[.i .i64],[.sl [.i .i64,.i .i64]],[.i .i64]],[.sl [.i .i64],.b],[],Ou.j .no,AU⟩
theorem ajR:aM PG KE 205 X3 (KD.ht 48) .no=some (KD.wc KE,[6,7]):=by kernel_rfl
theorem agZ:X4.Ok PG 205:=aN (ae dA (ae xC (ae (OW 64) (aj PG)))) ajR (by kernel_rfl)
theorem ajS (n) (a0) (a1) (a2):KF n (a0,a1,a2) = ((bf (a0,(1:Int),(12:Int))).bind fun r0=> bif !r0.1 then some true else (bf (a2,(0:Int),IntKind.wrap .i64 (a0-(1:Int)))).bind fun r1=> some !r1.1:Option (Bool)).bind fun x2=> bif x2 then some (([],false),()) else (aJ n (X:=Int) (B:=(Unit) ⊕ ((List Int) × Bool)) (fun self4 x3=> bif decide (x3<(a1.length:Int)) then bnd a1.length x3 fun n5=> a1[n5]?.bind fun y6=> (qg (a0,y6)).bind fun r7=> bif !r7.1 then some (Sum.inr ([],false)) else self4 (IntKind.wrap .i64 (x3+(1:Int))) else some (Sum.inl ())) (0:Int):Option ((Unit) ⊕ ((List Int) × Bool))).bind fun y=>match y with | .inl x8=> bif decide (0<=a0) then bif decide ((Int.toNat a0)<=4294967296) then (qX 64 (a0,a1,a2,(-1:Int),List.replicate (Int.toNat a0) false)).bind fun r9=> bif r9.1.2 then some (([],false),()) else some ((r9.1.1,true),()) else none else none | .inr x8=> some (x8,()):=by kernel_rfl
def Ce:TC:=
 (zS [bW 2 0,zEh 4 1000000005,aZ 5] (zS [bF 12 2 0,[o1 14 (.build nK [(0,.t 13)])],zEh 6 1000000007,zEi 14 6 14 6 14 14] (zS [EP 15 2 2 1,fJ 17 203 15 16,bV 17 7 17] (zQ (zS [bF 18 2 0,nH 20 42 19 12,iH 21 20] (zC 21 (zS [[o1 22 (.build nK [])],zEi 22 4 22 4 22 22,aZ 5] .ret) .skip)) (zS [Tp 23 8] (zQ (.join [⟨4,nK,false⟩,⟨6,nK,false⟩] 9007199237967728 (some [⟨4,nK,false⟩,⟨5,[.b],false⟩]) (zS [bD 9] (.block 0 (.loop [⟨4,nK,false⟩,⟨6,nK,false⟩,⟨8,[.sl [.i .i64]],false⟩,⟨9,[.i .i64],false⟩] 9007199237967728 (zQ (zS [OB 24 9 2 0,eD 27 24 26] (zC 27 .skip (.exit 0))) (zQ (.join [⟨4,nK,false⟩,⟨6,nK,false⟩,⟨8,[.sl [.i .i64]],false⟩] 9007198181002608 (some [⟨4,nK,false⟩,⟨5,[.b],false⟩]) (.block 1 (zQ (zS [Jp 30 8 9,fJ 32 204 30 31] (zC 32 (.exit 1) .skip)) (zS [bF 34 2 0,Jp 36 7 9,Ox 38 205 35 36 37,OL 38 33 38 1 1,bV 39 10 39,ai 11 40] (zQ (zS [ai 41 11,iH 42 41] (zC 42 (zS [[o1 43 (.build nK [])],zEi 43 4 43 4 43 43,aZ 5] .ret) .skip)) (zS [jr 44 6 1,zEk 10 10 46 10 46,[o1 47 (.sli [.sl [.i .i64]] [.t 46])],OH 45 45 47 48 45 45 6 48 6 6 1] (zR [Tc 8 50 8 30 50,ai 51 10,vU 50 51 52 50,Tc 52 8 52 30 8]))))))) (zR [dZ 28 9 9]))))))) (zS [nY 53 6 2 4 4 6,gH 5] .ret)))))))
def OZ:aI:=⟨[.rd true qa,.rd false [.d]],(.tup [(true,2),(false,1)] [.d,.sl (.own none) [.sl (.ro []) [.d]],.d])⟩
def Cf:aH:=aA [(203,TG),(42,dG),(204,oQ),(205,X4)]
def Cg (n:Nat):bK × Int->Option ((Int × List (List Int) × Bool) × Unit):=aC n Cf Ce [bv,[.i .i64]] [.i .i64,.sl [.sl [.i .i64]],.b] [] [4,5] .no
def lK:=Cg BIG
def n_:TSp:=⟨OZ,[bv,[.i .i64]],[.i .i64,.sl [.sl [.i .i64]],.b],[],Ou.j .no,lK⟩
theorem ac_:aM PG Cf 182 OZ (Ce.ht 54) .no=some (Ce.wc Cf,[4,5]):=by kernel_rfl
theorem qY:n_.Ok PG 182:=aN (ae ac9 (ae dA (ae qh (ae agZ (aj PG))))) ac_ (by kernel_rfl)
theorem ada (n) (a0) (a1):Cg n (a0,a1) =
 (Gg (a0,a1)).bind fun r0=>
 (bf (a0.1,(1:Int),(12:Int))).bind fun r1=>
 bif !r1.1 then
  some (((0:Int),[],false),())
 else (aJ n (X:=uu × uu × (List Int) × Int) (B:=(uu × uu) ⊕ (uu × Bool)) (fun self3 x2=>
  bif decide (x2.2.2.2<a0.1) then
   ((gQ (x2.2.2.1,x2.2.2.2)).bind fun r4=>
    bif r4.1 then
     some (Sum.inl (x2.1,x2.2.1,x2.2.2.1))
    else (AU (a0.1,r0.1,x2.2.2.2)).bind fun r5=>
    bif !r5.1.2 then
     some (Sum.inr (((0:Int),[]),false))
    else bif decide (x2.2.1.2.length+[r5.1.1].length<=4294967296) then
     bif decide (x2.2.2.1.length+r5.1.1.length<=4294967296) then
      some (Sum.inl (x2.1,(x2.2.1.1,x2.2.1.2++[r5.1.1]),x2.2.2.1++r5.1.1))
     else none
    else none:Option ((uu × uu × (List Int)) ⊕ (uu × Bool))).bind fun y=>match y with
   | .inl x6=>
    self3 (x6.1,x6.2.1,x6.2.2,IntKind.wrap .i64 (x2.2.2.2+(1:Int)))
   | .inr x6=>
    some (Sum.inr (x6.1,x6.2))
  else some (Sum.inl (x2.1,x2.2.1))) (((0:Int),[]),(a0.1,[]),[],(0:Int)):Option ((uu × uu) ⊕ (uu × Bool))).bind fun y=>match y with
 | .inl x7=>
  some ((x7.2.1,x7.2.2,true),())
 | .inr x7=>
  some ((x7.1.1,x7.1.2,x7.2),()):=by kernel_rfl
def Gm:TC:=
 (zS [EF 2] (zS [S9 5,bV 5 3 5] (zQ (.join [⟨3,[.sl [.i .i64]],false⟩] 131032 none (zS [bD 4] (.block 0 (.loop [⟨3,[.sl [.i .i64]],false⟩,⟨4,[.i .i64],false⟩] 131032 (zQ (zS [ai 6 4,[o1 7 (.data (.bin .lss) [.t 6,kD 12])]] (zC 7 .skip (.exit 0))) (zQ (.join [⟨3,[.sl [.i .i64]],false⟩] 130056 none (.block 1 (zS [cB 10 0 4,fJ 12 204 10 11] (zC 12 (zR [bV 3 13 3,ai 14 4,Ke 15 14,Kh 13 15 16 13 3]) .skip)))) (zR [ai 8 4,yI 9 8,ai 4 9]))))))) (zS [qd 3 17 3 2] .ret))))
def TJ:aI:=⟨[.rd false dF],(.one false dF)⟩
def Gn:aH:=aA [(204,oQ)]
def Gp (n:Nat):List (Int)->Option ((List Int) × Unit):=aC n Gn Gm [[.sl [.i .i64]]] [.sl [.i .i64]] [] [2] .no
def iy:=Gp BIG
def qZ:TSp:=⟨TJ,[[.sl [.i .i64]]],[.sl [.i .i64]],[],Ou.j .no,iy⟩
theorem ag0:aM PG Gn 186 TJ (Gm.ht 18) .no=some (Gm.wc Gn,[2]):=by kernel_rfl
theorem uZ:qZ.Ok PG 186:=aN (ae qh (aj PG)) ag0 (by kernel_rfl)
theorem ag1 (n) (a0):Gp n a0 = (aJ n (X:=(List Int) × Int) (B:=(List Int)) (fun self1 x0=> bif decide (x0.2<(12:Int)) then ((gQ (a0,x0.2)).bind fun r2=> bif r2.1 then bif decide (x0.1.length+[x0.2].length<=4294967296) then some (x0.1++[x0.2]) else none else some x0.1:Option ((List Int))).bind fun x3=> self1 (x3,IntKind.wrap .i64 (x0.2+(1:Int))) else some x0.1) ([],(0:Int)):Option ((List Int))).bind fun x4=> some (x4,()):=by kernel_rfl
def Gq:TC:=
 (zS [aZ 2] (zS [ai 6 0,zEn 7 6,XK 8 6 1 7,Ke 9 8,bV 9 3 9] (zS [ai 10 0,zEn 11 10,XK 12 10 1 11,Ke 13 12,bV 13 4 13] (zQ (.join [⟨3,[.sl [.i .i64]],false⟩] 2305843009213677628 (some [⟨2,[.b],false⟩]) (zS [kg 5 1] (.block 0 (.loop [⟨3,[.sl [.i .i64]],false⟩,⟨4,[.sl [.i .i64]],false⟩,⟨5,[.i .i64],false⟩] 2305843009213677628 (zQ (zS [AL 14 5 0] (zC 17 .skip (.exit 0))) (zQ (.join [⟨3,[.sl [.i .i64]],false⟩,⟨4,[.sl [.i .i64]],false⟩] 2305843009212645404 (some [⟨2,[.b],false⟩]) (.block 1 (zQ (.seq (.join [⟨35,[.b],false⟩] 68718428160 none (zR [eU 20 3,je 21 20,SS 22 21 1,Jq 23 22 0 3,eQ 25 5 3,mH 26 24 25 3,w_ 27 24 1 26 3,Oy 3 28 28 3,Oy 3 29 29 3,zEq 30 29 3,[o2 31 (.data (.bin .sub) [.t 30,kD 2]) 3 true],mH 32 28 31 3,w_ 33 3 1 32 3,XM 34 27 33 3,lF 23 34 35])) (zC 35 (zS [eU 36 3,eU 37 3,je 38 37,tH 39 38,[⟨true,[36],[],.det 2 (.res 36 none (some (.t 39))),[40,36,36,3,20,37],(some 40),none⟩,⟨false,[],[],.det 2 (.copy 40),[3,40,20,37,36],(some 3),none⟩]] (.exit 1)) .skip)) (zQ (zS [eU 41 4,OC 42 0 5 1,fJ 46 204 41 45] (zC 46 (zS [aZ 2] .ret) .skip)) (zS [Tc 4 47 4 41 47,OC 48 0 5 1,Ke 52 51,vU 47 52 53 47,Tc 53 4 53 41 4] (zR [Tc 3 54 3 20 54,OC 55 0 5 1,Ke 59 58,vU 54 59 60 54,Tc 60 3 60 20 3])))))) (zR [dZ 18 5 5]))))))) (zS [bV 3 61 3,je 62 61,jD 63 62 1 2] .ret)))))
def TK:aI:=⟨[.rd false dF],(.one false [.d])⟩
def Gr:aH:=aA [(204,oQ)]
def Gs (n:Nat):List (Int)->Option ((Bool) × Unit):=aC n Gr Gq [[.sl [.i .i64]]] [.b] [] [2] .no
def Gt:=Gs BIG
def TL:TSp:=⟨TK,[[.sl [.i .i64]]],[.b],[],Ou.j .no,Gt⟩
theorem ag2:aM PG Gr 209 TK (Gq.ht 64) .no=some (Gq.wc Gr,[2]):=by kernel_rfl
theorem adb:TL.Ok PG 209:=aN (ae qh (aj PG)) ag2 (by kernel_rfl)
theorem ag3 (n) (a0):Gs n a0 =
 bnd a0.length (0:Int) fun n0=>
 a0[n0]?.bind fun y1=>
 bnd a0.length (0:Int) fun n2=>
 a0[n2]?.bind fun y3=>
 (aJ n (X:=(List Int) × (List Int) × Int) (B:=((List Int)) ⊕ (Bool)) (fun self5 x4=>
  bif decide (x4.2.2<(a0.length:Int)) then
   ((bif decide ((1:Int)<(x4.1.length:Int)) then
     bnd a0.length x4.2.2 fun n6=>
     a0[n6]?.bind fun y7=>
     bnd x4.1.length (IntKind.wrap .i64 ((x4.1.length:Int)-(2:Int))) fun n8=>
     x4.1[n8]?.bind fun y9=>
     some (decide (y7=y9))
    else some false:Option (Bool)).bind fun x10=>
    bif x10 then
     bif decide (0<=(IntKind.wrap .i64 ((x4.1.length:Int)-(1:Int)))) then
      bif decide (0<=(Int.toNat (IntKind.wrap .i64 ((x4.1.length:Int)-(1:Int))))/\(Int.toNat (IntKind.wrap .i64 ((x4.1.length:Int)-(1:Int))))<=x4.1.length) then
       some (Sum.inl (List.take ((Int.toNat (IntKind.wrap .i64 ((x4.1.length:Int)-(1:Int))))-0) (List.drop 0 x4.1),x4.2.1))
      else none
     else none
    else bnd a0.length x4.2.2 fun n11=>
    a0[n11]?.bind fun y12=>
    (gQ (x4.2.1,y12)).bind fun r13=>
    bif r13.1 then
     some (Sum.inr false)
    else bnd a0.length x4.2.2 fun n14=>
    a0[n14]?.bind fun y15=>
    bif decide (x4.2.1.length+[y15].length<=4294967296) then
     bnd a0.length x4.2.2 fun n16=>
     a0[n16]?.bind fun y17=>
     bif decide (x4.1.length+[y17].length<=4294967296) then
      some (Sum.inl (x4.1++[y17],x4.2.1++[y15]))
     else none
    else none:Option (((List Int) × (List Int)) ⊕ (Bool))).bind fun y=>match y with
   | .inl x18=>
    self5 (x18.1,x18.2,IntKind.wrap .i64 (x4.2.2+(1:Int)))
   | .inr x18=>
    some (Sum.inr x18)
  else some (Sum.inl x4.1)) ([y1],[y3],(1:Int)):Option (((List Int)) ⊕ (Bool))).bind fun y=>match y with
 | .inl x19=>
  some (decide ((x19.length:Int)=(1:Int)),())
 | .inr x19=>
  some (x19,()):=by kernel_rfl
def KG:TC:=
 (zS [aZ 2] (zQ (zS [tO 4 0 4,nH 6 42 5 23,iH 7 6] (zC 7 (zS [aZ 2] .ret) .skip)) (zQ (.join [] 1048332 (some [⟨2,[.b],false⟩]) (zS [bD 3] (.block 0 (.loop [⟨3,[.i .i64],false⟩] 1048332 (zQ (zS [cB 8 3 0,tL 10 9 8] (zC 11 .skip (.exit 0))) (zQ (.block 1 (zS [OC 14 0 3 1,[o3 18 42 [.t 17,kO 0,kO 11]],iH 19 18] (zC 19 (zS [aZ 2] .ret) .skip))) (zR [dZ 12 3 3]))))))) (zS [ai 20 0,dX 21 209 20,ai 2 21] .ret))))
def X5:aI:=⟨[.rd false dF],(.one false [.d])⟩
def KH:aH:=aA [(42,dG),(209,TL)]
def KI (n:Nat):List (Int)->Option ((Bool) × Unit):=aC n KH KG [[.sl [.i .i64]]] [.b] [] [2] .no
def KJ:=KI BIG
def X6:TSp:=⟨X5,[[.sl [.i .i64]]],[.b],[],Ou.j .no,KJ⟩
theorem ajT:aM PG KH 208 X5 (KG.ht 22) .no=some (KG.wc KH,[2]):=by kernel_rfl
theorem ag4:X6.Ok PG 208:=aN (ae dA (ae adb (aj PG))) ajT (by kernel_rfl)
theorem ajU (n) (a0):KI n a0 = (bf ((a0.length:Int),(1:Int),(23:Int))).bind fun r0=> bif !r0.1 then some (false,()) else (aJ n (X:=Int) (B:=(Unit) ⊕ (Bool)) (fun self2 x1=> bif decide (x1<(a0.length:Int)) then bnd a0.length x1 fun n3=> a0[n3]?.bind fun y4=> (bf (y4,(0:Int),(11:Int))).bind fun r5=> bif !r5.1 then some (Sum.inr false) else self2 (IntKind.wrap .i64 (x1+(1:Int))) else some (Sum.inl ())) (0:Int):Option ((Unit) ⊕ (Bool))).bind fun y=>match y with | .inl x6=> (Gt a0).bind fun r7=> some (r7.1,()) | .inr x6=> some (x6,()):=by kernel_rfl
def Ch:TC:=
 (zS [iK 1 0] (zQ (.seq (.join [⟨17,[.b],false⟩] 261888 none (zR [fK 8 1 0 8,nH 10 42 9 12,kI 11 10,iJ 13 4 1 1 4,zEu 15 14 4,zDv 16 15 12 4,tC 12 16 17])) (zC 17 (zS [aZ 2] .ret) .skip)) (zS [bD 3] (zQ (.join [⟨3,[.i .i64],false⟩] 2475880078570760549797986556 (some [⟨2,[.b],false⟩]) (zS [bD 4] (.block 0 (.loop [⟨3,[.i .i64],false⟩,⟨4,[.i .i64],false⟩] 2475880078570760549797986556 (zQ (zS [OI 18 4 1 1 21] (zC 22 .skip (.exit 0))) (zQ (.join [⟨3,[.i .i64],false⟩] 2475880078570760549764694252 (some [⟨2,[.b],false⟩]) (.block 1 (zQ (zS [AP 25 1 1 4,ku 28 26 27 1,dX 30 208 29,iH 31 30] (zC 31 (zS [aZ 2] .ret) .skip)) (zS [AP 32 1 1 4,ku 35 33 34 1,dX 37 186 36,bV 37 5 37] (zS [ai 38 3,eU 39 5,je 40 39,zAo 41 38 40,ai 3 41] (zQ (.seq (.join [⟨69,[.b],false⟩] 1180591616319364792320 none (zR [eU 42 5,eU 43 5,je 44 43,tH 45 44,EL 46 42 45 5 1,bF 48 1 0,zAC 50 47 49,ai 51 50,eZ 52 4 9,zDv 53 52 0 9,eZ 54 53 9,xe 55 12 1 1,eQ 57 4 12,zDn 58 57 12,mH 59 56 58 12,w_ 60 56 1 59 12,zEv 186 60 61 61 12,[o2 62 (.index 61 (kD 0)) 12 true],w_ 63 61 1 62 12,Oy 5 64 64 12,[o2 65 (.index 64 (kD 0)) 12 true],w_ 66 5 1 65 12,zDD 67 63 66 12,AO 54 67 68 68 9 51])) (zC 69 (zS [aZ 2] .ret) .skip)) (zS [bD 6] (.block 2 (.loop [⟨6,[.i .i64],false⟩] 2475878897979139832386945220 (zQ (zS [OD 70 6 4] (zC 72 .skip (.exit 2))) (zQ (.join [] 2475842299638897592636539012 (some [⟨2,[.b],false⟩]) (.block 3 (zS [bD 7] (.block 4 (.loop [⟨7,[.i .i64],false⟩] 2475842299638897592636539012 (zQ (zS [ai 75 7,eU 76 5,tL 77 76 75] (zC 78 .skip (.exit 4))) (zQ (.block 5 (zS [ai 83 6,Jp 86 5 7,bF 81 1 1,ku 84 82 83 1,EL 88 86 87 5 1,fJ 90 204 85 89] (zC 90 (zS [aZ 2] .ret) .skip))) (zR [dZ 79 7 7])))))))) (zR [dZ 73 6 6])))))))))))) (zR [dZ 23 4 4]))))))) (zS [OB 91 3 1 0,mI 94 91 93,ai 2 94] .ret)))))
def O0:aI:=⟨[.rd true [.d,.sl (.own none) dF]],(.one false [.d])⟩
def Ci:aH:=aA [(42,dG),(208,X6),(186,qZ),(204,oQ)]
def Cj (n:Nat):uu->Option ((Bool) × Unit):=aC n Ci Ch [nK] [.b] [] [2] .no
def Ck:=Cj BIG
def O1:TSp:=⟨O0,[nK],[.b],[],Ou.j .no,Ck⟩
theorem adc:aM PG Ci 206 O0 (Ch.ht 95) .no=some (Ch.wc Ci,[2]):=by kernel_rfl
theorem aa8:O1.Ok PG 206:=aN (ae dA (ae ag4 (ae uZ (ae qh (aj PG))))) adc (by kernel_rfl)
theorem ade (n) (a0):Cj n a0 =
 ((bf (a0.1,(1:Int),(12:Int))).bind fun r0=>
  bif !r0.1 then
   some true
  else some (decide ((12:Int)<(a0.2.length:Int))):Option (Bool)).bind fun x1=>
 bif x1 then
  some (false,())
 else (aJ n (X:=Int × Int) (B:=(Int) ⊕ (Bool)) (fun self3 x2=>
  bif decide (x2.2<(a0.2.length:Int)) then
   (bnd a0.2.length x2.2 fun n4=>
    a0.2[n4]?.bind fun y5=>
    (KJ y5).bind fun r6=>
    bif !r6.1 then
     some (Sum.inr false)
    else bnd a0.2.length x2.2 fun n7=>
    a0.2[n7]?.bind fun y8=>
    (iy y8).bind fun r9=>
    (bnd r9.1.length (IntKind.wrap .i64 ((r9.1.length:Int)-(1:Int))) fun n10=>
     r9.1[n10]?.bind fun y11=>
     bif decide (a0.1<=y11) then
      some true
     else bif decide ((0:Int)<x2.2) then
      bnd a0.2.length (IntKind.wrap .i64 (x2.2-(1:Int))) fun n12=>
      a0.2[n12]?.bind fun y13=>
      (iy y13).bind fun r14=>
      bnd r14.1.length (0:Int) fun n15=>
      r14.1[n15]?.bind fun y16=>
      bnd r9.1.length (0:Int) fun n17=>
      r9.1[n17]?.bind fun y18=>
      some (decide (y18<=y16))
     else some false:Option (Bool)).bind fun x19=>
    bif x19 then
     some (Sum.inr false)
    else aJ n (X:=Int) (B:=(Int) ⊕ (Bool)) (fun self21 x20=>
     bif decide (x20<x2.2) then
      (aJ n (X:=Int) (B:=(Unit) ⊕ (Bool)) (fun self23 x22=>
       bif decide (x22<(r9.1.length:Int)) then
        bnd a0.2.length x20 fun n24=>
        a0.2[n24]?.bind fun y25=>
        bnd r9.1.length x22 fun n26=>
        r9.1[n26]?.bind fun y27=>
        (gQ (y25,y27)).bind fun r28=>
        bif r28.1 then
         some (Sum.inr false)
        else self23 (IntKind.wrap .i64 (x22+(1:Int)))
       else some (Sum.inl ())) (0:Int):Option ((Unit) ⊕ (Bool))).bind fun y=>match y with
      | .inl x29=>
       self21 (IntKind.wrap .i64 (x20+(1:Int)))
      | .inr x29=>
       some (Sum.inr x29)
     else some (Sum.inl (IntKind.wrap .i64 (x2.1+(r9.1.length:Int))))) (0:Int):Option ((Int) ⊕ (Bool))).bind fun y=>match y with
   | .inl x30=>
    self3 (x30,IntKind.wrap .i64 (x2.2+(1:Int)))
   | .inr x30=>
    some (Sum.inr x30)
  else some (Sum.inl x2.1)) ((0:Int),(0:Int)):Option ((Int) ⊕ (Bool))).bind fun y=>match y with
 | .inl x31=>
  some (decide (x31=a0.1),())
 | .inr x31=>
  some (x31,()):=by kernel_rfl
def KL:TC:=
 (zS [bW 2 0,bD 4] (zQ (zS [dw 6 2 2,dX 7 206 6,iH 8 7] (zC 8 (zS [zEw 4] .ret) .skip)) (zQ (.join [] 16776752 (some [⟨4,[.i .i64],false⟩]) (zS [bD 5] (.block 0 (.loop [⟨5,[.i .i64],false⟩] 16776752 (zQ (zS [OB 9 5 2 1,tL 12 11 9] (zC 13 .skip (.exit 0))) (zQ (.block 1 (zS [AP 16 2 1 5,ku 19 17 18 1,ai 21 1,fJ 22 204 20 21] (zC 22 (zS [ai 23 5,ai 4 23] .ret) .skip))) (zR [dZ 14 5 5]))))))) (zS [zEw 4] .ret))))
def X7:aI:=⟨[.rd true [.d,.sl (.own none) dF],.rd false [.d]],(.one false [.d])⟩
def KM:aH:=aA [(206,O1),(204,oQ)]
def KN (n:Nat):uu × Int->Option ((Int) × Unit):=aC n KM KL [nK,[.i .i64]] [.i .i64] [] [4] .no
def jT:=KN BIG
def wh:TSp:=⟨X7,[nK,[.i .i64]],[.i .i64],[],Ou.j .no,jT⟩
theorem ajV:aM PG KM 183 X7 (KL.ht 24) .no=some (KL.wc KM,[4]):=by kernel_rfl
theorem xF:wh.Ok PG 183:=aN (ae aa8 (ae qh (aj PG))) ajV (by kernel_rfl)
theorem ajW (n) (a0) (a1):KN n (a0,a1) = (Ck a0).bind fun r0=> bif !r0.1 then some ((-1:Int),()) else (aJ n (X:=Int) (B:=(Unit) ⊕ (Int)) (fun self2 x1=> bif decide (x1<(a0.2.length:Int)) then bnd a0.2.length x1 fun n3=> a0.2[n3]?.bind fun y4=> (gQ (y4,a1)).bind fun r5=> bif r5.1 then some (Sum.inr x1) else self2 (IntKind.wrap .i64 (x1+(1:Int))) else some (Sum.inl ())) (0:Int):Option ((Unit) ⊕ (Int))).bind fun y=>match y with | .inl x6=> some ((-1:Int),()) | .inr x6=> some (x6,()):=by kernel_rfl
def QM:TC:=
 (zS [iK 1 0] (zQ (zS [vY 12 1 2 123,dX 14 127 13,iH 15 14] (zC 15 (zS [aZ 2] .ret) .skip)) (zQ (.join [] 2147418124 (some [⟨2,[.b],false⟩]) (zS [bD 3] (.block 0 (.loop [⟨3,[.i .i64],false⟩] 2147418124 (zQ (zS [OI 16 3 1 1 19] (zC 20 .skip (.exit 0))) (zQ (.block 1 (zS [AP 23 1 1 3,zMg 26 24 25 4 2,[o3 29 42 [.t 28,kO 0,kO 4]],iH 30 29] (zC 30 (zS [aZ 2] .ret) .skip))) (zR [dZ 21 3 3]))))))) (zS [bF 31 1 0,ai 4 32] (zQ (.join [] 1267650600228229401488113274868 (some [⟨2,[.b],false⟩]) (zS [bD 5] (.block 2 (.loop [⟨4,[.i .i64],false⟩,⟨5,[.i .i64],false⟩] 1267650600228229401488113274868 (zQ (zS [ai 33 5,zAy 34 33 4] (zC 34 .skip (.exit 2))) (zQ (.join [⟨4,[.i .i64],false⟩] 1267650600228229401359264255956 (some [⟨2,[.b],false⟩]) (.block 3 (zS [EP 38 1 2 5,fJ 40 182 38 39,OL 40 37 40 2 2,zEh 6 1000000007,vZ 6 41 6 41] (zQ (zS [ai 43 7,iH 44 43] (zC 44 (zS [aZ 2] .ret) .skip)) (zQ (.join [] 73786941110466118404 (some [⟨2,[.b],false⟩]) (zS [bD 8] (.block 4 (.loop [⟨8,[.i .i64],false⟩] 73786941110466118404 (zQ (zS [ai 45 8,jr 46 6 1,tL 48 47 45] (zC 49 .skip (.exit 4))) (zQ (.join [] 73782472695210836484 (some [⟨2,[.b],false⟩]) (.block 5 (zS [jr 52 6 1,ai 54 8,OM 55 53 54 6 1 1,dX 57 186 56,je 58 57,ai 9 58] (zQ (.join [⟨65,[.b],false⟩] 73210515542534782976 none (zR [ai 59 9,SS 60 59 1,Jq 61 60 9 2,eQ 63 4 2,[o2 64 (.data (.bin .gtr) [.t 62,.t 63]) 2 true],lF 61 64 65])) (zC 65 (zS [aZ 2] .ret) .skip))))) (zR [dZ 50 8 8]))))))) (zQ (.join [] 316912649983270374079337597956 (some [⟨2,[.b],false⟩]) (zS [bD 10] (.block 6 (.loop [⟨10,[.i .i64],false⟩] 316912649983270374079337597956 (zQ (zS [OI 66 10 1 1 69] (zC 70 .skip (.exit 6))) (zQ (.join [] 316912640612324384634885376004 (some [⟨2,[.b],false⟩]) (.block 7 (zS [AP 73 1 1 10,jq 76 74 75 4 4,Ow 11 1000000012,df 11 11 77] (zQ (.join [⟨97,[.b],false⟩] 316912347825602446716882124800 none (zR [bF 78 11 3,kI 80 79,tN 82 3 11 2 3,eQ 84 5 3,Tq 85 83 84 3 81,zEy 88 6 2 9,ko 89 9,tF 90 11 0 89 9,kR 183 88 90 91 91 9,zEy 92 6 2 9,ko 93 9,tF 94 11 1 93 9,kR 183 92 94 95 95 9,zEz 96 91 95 9,lF 87 96 97])) (zC 97 (zS [aZ 2] .ret) .skip))))) (zR [OJ 71 10]))))))) (zR [ai 98 4,[o1 99 (.data (.bin .quo) [.t 98,kD 2])],ai 4 99]))))))) (zR [dZ 35 5 5]))))))) (zS [gH 2] .ret))))))
def aa9:aI:=⟨[.rd true qa],(.one false [.d])⟩
def QN:aH:=aA [(123,qQ),(127,xD),(42,dG),(182,n_),(186,qZ),(183,wh)]
def QO (n:Nat):bK->Option ((Bool) × Unit):=aC n QN QM [bv] [.b] [] [2] .no
def uw:=QO BIG
def yP:TSp:=⟨aa9,[bv],[.b],[],Ou.j .no,uw⟩
theorem al_:aM PG QN 180 aa9 (QM.ht 100) .no=some (QM.wc QN,[2]):=by kernel_rfl
theorem AY:yP.Ok PG 180:=aN (ae uY (ae Cc (ae dA (ae qY (ae uZ (ae xF (aj PG))))))) al_ (by kernel_rfl)
theorem ama (n) (a0):QO n a0 =
 (iX a0).bind fun r0=>
 (qV r0.1).bind fun r1=>
 bif !r1.1 then
  some (false,())
 else (aJ n (X:=Int) (B:=(Unit) ⊕ (Bool)) (fun self3 x2=>
  bif decide (x2<(a0.2.length:Int)) then
   bnd a0.2.length x2 fun n4=>
   a0.2[n4]?.bind fun y5=>
   (bf (y5.2.2.1,(0:Int),(4:Int))).bind fun r6=>
   bif !r6.1 then
    some (Sum.inr false)
   else self3 (IntKind.wrap .i64 (x2+(1:Int)))
  else some (Sum.inl ())) (0:Int):Option ((Unit) ⊕ (Bool))).bind fun y=>match y with
 | .inl x7=>
  (aJ n (X:=Int × Int) (B:=(Unit) ⊕ (Bool)) (fun self9 x8=>
   bif decide (x8.2<=(4:Int)) then
    ((lK (a0,x8.2)).bind fun r10=>
     bif !r10.1.2.2 then
      some (Sum.inr false)
     else (aJ n (X:=Int) (B:=(Unit) ⊕ (Bool)) (fun self12 x11=>
      bif decide (x11<(r10.1.2.1.length:Int)) then
       (bnd r10.1.2.1.length x11 fun n13=>
        r10.1.2.1[n13]?.bind fun y14=>
        (iy y14).bind fun r15=>
        (bif decide ((1:Int)<(r15.1.length:Int)) then
         some (decide (x8.1<(r15.1.length:Int)))
         else some false:Option (Bool)).bind fun x16=>
        bif x16 then
         some (Sum.inr false)
        else some (Sum.inl ()):Option ((Unit) ⊕ (Bool))).bind fun y=>match y with
       | .inl x17=>
        self12 (IntKind.wrap .i64 (x11+(1:Int)))
       | .inr x17=>
        some (Sum.inr x17)
      else some (Sum.inl ())) (0:Int):Option ((Unit) ⊕ (Bool))).bind fun y=>match y with
     | .inl x18=>
      (aJ n (X:=Int) (B:=(Unit) ⊕ (Bool)) (fun self20 x19=>
       bif decide (x19<(a0.2.length:Int)) then
        (bnd a0.2.length x19 fun n21=>
         a0.2[n21]?.bind fun y22=>
         (bif !y22.2.2.2 then
          bif decide (y22.2.2.1=x8.2) then
           (jT ((r10.1.1,r10.1.2.1),y22.1)).bind fun r23=>
           (jT ((r10.1.1,r10.1.2.1),y22.2.1)).bind fun r24=>
           some (!decide (r23.1=r24.1))
          else some false
          else some false:Option (Bool)).bind fun x25=>
         bif x25 then
          some (Sum.inr false)
         else some (Sum.inl ()):Option ((Unit) ⊕ (Bool))).bind fun y=>match y with
        | .inl x26=>
         self20 (IntKind.wrap .i64 (x19+(1:Int)))
        | .inr x26=>
         some (Sum.inr x26)
       else some (Sum.inl ())) (0:Int):Option ((Unit) ⊕ (Bool))).bind fun y=>match y with
      | .inl x27=>
       bif decide ((2:Int)=0) then
        none
       else some (Sum.inl (IntKind.wrap .i64 (Int.tdiv x8.1 (2:Int))))
      | .inr x27=>
       some (Sum.inr x27)
     | .inr x18=>
      some (Sum.inr x18):Option ((Int) ⊕ (Bool))).bind fun y=>match y with
    | .inl x28=>
     self9 (x28,IntKind.wrap .i64 (x8.2+(1:Int)))
    | .inr x28=>
     some (Sum.inr x28)
   else some (Sum.inl ())) (a0.1,(0:Int)):Option ((Unit) ⊕ (Bool))).bind fun y=>match y with
  | .inl x29=>
   some (true,())
  | .inr x29=>
   some (x29,())
 | .inr x7=>
  some (x7,()):=by kernel_rfl
def rf:TC:=
 (zS [aZ 4] (zQ (zS [tO 6 0 6,tO 8 1 8,tK 10 7 9] (zC 10 (zS [aZ 4] .ret) .skip)) (zQ (.join [] 67106864 (some [⟨4,[.b],false⟩]) (zS [bD 5] (.block 0 (.loop [⟨5,[.i .i64],false⟩] 67106864 (zQ (zS [AL 11 5 0] (zC 14 .skip (.exit 0))) (zQ (.block 1 (zS [cB 17 0 5,cB 21 1 5,jq 19 17 18 2 2,jq 23 21 22 2 2,zEB 25 20 24] (zC 25 (zS [aZ 4] .ret) .skip))) (zR [dZ 15 5 5]))))))) (zS [gH 4] .ret))))
def AZ:aI:=⟨[.rd false fE,.rd false fE],(.one false [.d])⟩
def rq:aH:=aA []
def ru (n:Nat):(List aF) × (List aF)->Option ((Bool) × Unit):=aC n rq rf [[.sl [.i .i64,.i .i64]],[.sl [.i .i64,.i .i64]]] [.b] [] [4] .no
def l8:=ru BIG
def ry:TSp:=⟨AZ,[[.sl [.i .i64,.i .i64]],[.sl [.i .i64,.i .i64]]],[.b],[],Ou.j .no,l8⟩
theorem TM:aM PG rq 202 AZ (rf.ht 26) .no=some (rf.wc rq,[4]):=by kernel_rfl
theorem yQ:ry.Ok PG 202:=aN (aj PG) TM (by kernel_rfl)
theorem TN (n) (a0) (a1):ru n (a0,a1) = bif !decide ((a0.length:Int)=(a1.length:Int)) then some (false,()) else (aJ n (X:=Int) (B:=(Unit) ⊕ (Bool)) (fun self1 x0=> bif decide (x0<(a0.length:Int)) then bnd a0.length x0 fun n2=> a0[n2]?.bind fun y3=> bnd a1.length x0 fun n4=> a1[n4]?.bind fun y5=> bif !(decide (y3.1=y5.1)&&(decide (y3.2=y5.2)&&true)) then some (Sum.inr false) else self1 (IntKind.wrap .i64 (x0+(1:Int))) else some (Sum.inl ())) (0:Int):Option ((Unit) ⊕ (Bool))).bind fun y=>match y with | .inl x6=> some (true,()) | .inr x6=> some (x6,()):=by kernel_rfl
def uy:TC:=
 (zS [aZ 4] (zQ (zS [tO 6 0 6,tO 8 1 8,tK 10 7 9] (zC 10 (zS [aZ 4] .ret) .skip)) (zQ (.join [] 67106864 (some [⟨4,[.b],false⟩]) (zS [bD 5] (.block 0 (.loop [⟨5,[.i .i64],false⟩] 67106864 (zQ (zS [AL 11 5 0] (zC 14 .skip (.exit 0))) (zQ (.block 1 (zS [cB 17 0 5,cB 21 1 5,ku 19 17 18 1,ku 23 21 22 1,tK 25 20 24] (zC 25 (zS [aZ 4] .ret) .skip))) (zR [dZ 15 5 5]))))))) (zS [gH 4] .ret))))
def ER:aI:=⟨[.rd false dF,.rd false dF],(.one false [.d])⟩
def uz:aH:=aA []
def kM (n:Nat):List Int × List (Int)->Option ((Bool) × Unit):=aC n uz uy [[.sl [.i .i64]],[.sl [.i .i64]]] [.b] [] [4] .no
def nA:=kM BIG
def uA:TSp:=⟨ER,[[.sl [.i .i64]],[.sl [.i .i64]]],[.b],[],Ou.j .no,nA⟩
theorem VV:aM PG uz 181 ER (uy.ht 26) .no=some (uy.wc uz,[4]):=by kernel_rfl
theorem A7:uA.Ok PG 181:=aN (aj PG) VV (by kernel_rfl)
theorem uB (n) (a0) (a1):kM n (a0,a1) = bif !decide ((a0.length:Int)=(a1.length:Int)) then some (false,()) else (aJ n (X:=Int) (B:=(Unit) ⊕ (Bool)) (fun self1 x0=> bif decide (x0<(a0.length:Int)) then bnd a0.length x0 fun n2=> a0[n2]?.bind fun y3=> bnd a1.length x0 fun n4=> a1[n4]?.bind fun y5=> bif !decide (y3=y5) then some (Sum.inr false) else self1 (IntKind.wrap .i64 (x0+(1:Int))) else some (Sum.inl ())) (0:Int):Option ((Unit) ⊕ (Bool))).bind fun y=>match y with | .inl x6=> some (true,()) | .inr x6=> some (x6,()):=by kernel_rfl
def oU:TC:=
 (zS [bW 2 0,iK 3 1] (zQ (.join [⟨4,[.b],false⟩] 2147483632 none (zR [fK 5 2 0 5,fK 7 3 0 7,mI 9 6 8,qf 10 9 5 2 1 5,tN 13 5 3 1 5,[o2 15 (.data (.beq false) [.t 12,.t 14]) 5 true],kS 10 15 16,Kj 18 12 2 2 3 2,kR 202 19 21 22 22 12,kS 17 22 23,Kj 25 19 2 3 3 3,kR 181 26 28 29 29 19,kU 24 29 30 4])) .ret))
def yR:aI:=⟨[.rd true Az,.rd true Az],(.one false [.d])⟩
def oV:aH:=aA [(202,ry),(181,uA)]
def oW (n:Nat):iC × iC->Option ((Bool) × Unit):=aC n oV oU [fQ,fQ] [.b] [] [4] .no
def oZ:=oW BIG
def yS:TSp:=⟨yR,[fQ,fQ],[.b],[],Ou.j .no,oZ⟩
theorem QP:aM PG oV 169 yR (oU.ht 31) .no=some (oU.wc oV,[4]):=by kernel_rfl
theorem Od:yS.Ok PG 169:=aN (ae yQ (ae A7 (aj PG))) QP (by kernel_rfl)
theorem QQ (n) (a0) (a1):oW n (a0,a1) = (bif decide (a0.1=a1.1) then bif (a0.2.1 == a1.2.1) then (l8 (a0.2.2.1,a1.2.2.1)).bind fun r0=> bif r0.1 then (nA (a0.2.2.2,a1.2.2.2)).bind fun r1=> some r1.1 else some false else some false else some false:Option (Bool)).bind fun x2=> some (x2,()):=by kernel_rfl
def Cm:TC:=
 (zS [iK 1 0] (zS [dw 3 1 4,zEC 4,fJ 5 169 3 4,ai 2 5] .ret))
def O3:aI:=⟨[.rd true Az],(.one false [.d])⟩
def Cn:aH:=aA [(169,yS)]
def Co (n:Nat):iC->Option ((Bool) × Unit):=aC n Cn Cm [fQ] [.b] [] [2] .no
def Cq:=Co BIG
def O4:TSp:=⟨O3,[fQ],[.b],[],Ou.j .no,Cq⟩
theorem adf:aM PG Cn 96 O3 (Cm.ht 6) .no=some (Cm.wc Cn,[2]):=by kernel_rfl
theorem aa_:O4.Ok PG 96:=aN (ae Od (aj PG)) adf (by kernel_rfl)
theorem adg (n) (a0):Co n a0 = (oZ (a0,((0:Int),false,[],[]))).bind fun r0=> some (r0.1,()):=by kernel_rfl
def yT:TC:=
 (zS [aZ 4] (zQ (zS [tO 6 1 6,ai 8 0,tK 9 7 8] (zC 9 (zS [aZ 4] .ret) .skip)) (zQ (.join [] 68719475760 (some [⟨4,[.b],false⟩]) (zS [bD 5] (.block 0 (.loop [⟨5,[.i .i64],false⟩] 68719475760 (zQ (zS [OD 10 5 0] (zC 12 .skip (.exit 0))) (zQ (.join [] 68719443984 (some [⟨4,[.b],false⟩]) (.block 1 (zQ (.join [⟨35,[.b],false⟩] 68719443968 none (zR [cB 15 1 5,ai 19 5,ku 17 15 16 1,XN 20 42 18 19,kI 21 20,eZ 23 1 7,eZ 24 1 7,Tk 25 5 7 24 7,Td 27 24 1 26 7,zEE 28 23 27 7,Td 29 23 1 28 7,eZ 30 1 7,Tk 31 5 7 30 7,Td 33 30 1 32 7,EM 34 29 33 7 22])) (zC 35 (zS [aZ 4] .ret) .skip)))) (zR [dZ 13 5 5]))))))) (zS [gH 4] .ret))))
def KO:aI:=⟨[.rd false [.d],.rd false dF],(.one false [.d])⟩
def yU:aH:=aA [(42,dG)]
def yV (n:Nat):Int × List (Int)->Option ((Bool) × Unit):=aC n yU yT [[.i .i64],[.sl [.i .i64]]] [.b] [] [4] .no
def rA:=yV BIG
def yX:TSp:=⟨KO,[[.i .i64],[.sl [.i .i64]]],[.b],[],Ou.j .no,rA⟩
theorem aba:aM PG yU 140 KO (yT.ht 36) .no=some (yT.wc yU,[4]):=by kernel_rfl
theorem Jr:yX.Ok PG 140:=aN (ae dA (aj PG)) aba (by kernel_rfl)
theorem abb (n) (a0) (a1):yV n (a0,a1) =
 bif !decide ((a1.length:Int)=a0) then
  some (false,())
 else (aJ n (X:=Int) (B:=(Unit) ⊕ (Bool)) (fun self1 x0=>
  bif decide (x0<a0) then
   ((bnd a1.length x0 fun n2=>
    a1[n2]?.bind fun y3=>
    (bf (y3,(0:Int),x0)).bind fun r4=>
    bif !r4.1 then
     some true
    else bnd a1.length x0 fun n5=>
    a1[n5]?.bind fun y6=>
    bnd a1.length y6 fun n7=>
    a1[n7]?.bind fun y8=>
    bnd a1.length x0 fun n9=>
    a1[n9]?.bind fun y10=>
    some (!decide (y8=y10)):Option (Bool)).bind fun x11=>
    bif x11 then
     some (Sum.inr false)
    else some (Sum.inl ()):Option ((Unit) ⊕ (Bool))).bind fun y=>match y with
   | .inl x12=>
    self1 (IntKind.wrap .i64 (x0+(1:Int)))
   | .inr x12=>
    some (Sum.inr x12)
  else some (Sum.inl ())) (0:Int):Option ((Unit) ⊕ (Bool))).bind fun y=>match y with
 | .inl x13=>
  some (true,())
 | .inr x13=>
  some (x13,()):=by kernel_rfl
def Cr:TC:=
 (zS [iK 3 1] (zQ (.join [⟨4,[.b],false⟩] 16777200 none (zR [ai 5 0,nH 6 42 5 12,ai 7 6,ko 8 2,tF 9 3 0 8 2,zGc 42 9 10 10 2,kS 7 10 11,eQ 13 0 7,tN 14 7 3 2 7,kR 139 13 15 16 16 7,kS 12 16 17,eQ 19 0 13,xe 20 13 3 3,kR 140 19 21 22 22 13,kU 18 22 23 4])) .ret))
def O5:aI:=⟨[.rd false [.d],.rd true Az],(.one false [.d])⟩
def Cs:aH:=aA [(42,dG),(139,nZ),(140,yX)]
def Ct (n:Nat):Int × iC->Option ((Bool) × Unit):=aC n Cs Cr [[.i .i64],fQ] [.b] [] [4] .no
def u6:=Ct BIG
def Cu:TSp:=⟨O5,[[.i .i64],fQ],[.b],[],Ou.j .no,u6⟩
theorem adh:aM PG Cs 80 O5 (Cr.ht 24) .no=some (Cr.wc Cs,[4]):=by kernel_rfl
theorem KP:Cu.Ok PG 80:=aN (ae dA (ae qU (ae Jr (aj PG)))) adh (by kernel_rfl)
theorem adi (n) (a0) (a1):Ct n (a0,a1) = ((bf (a0,(1:Int),(12:Int))).bind fun r0=> bif r0.1 then (bf (a1.1,(1:Int),(100000:Int))).bind fun r1=> bif r1.1 then (lJ (a0,a1.2.2.1)).bind fun r2=> bif r2.1 then (rA (a0,a1.2.2.2)).bind fun r3=> some r3.1 else some false else some false else some false:Option (Bool)).bind fun x4=> some (x4,()):=by kernel_rfl
def yY:TC:=
 (zS [bW 1 0,EF 2] (zS [S9 7,bV 7 3 7] (zQ (zS [dw 8 1 2,dX 9 180 8,iH 10 9] (zC 10 (zS [qd 3 11 3 2] .ret) .skip)) (zS [dw 13 1 2,zGd 14 182 13,OL 14 12 14 2 2,zEh 4 1000000005,vZ 4 15 4 15] (zQ (.join [⟨3,[.sl [.i .i64]],false⟩] 68719345736 none (zS [bD 6] (.block 0 (.loop [⟨3,[.sl [.i .i64]],false⟩,⟨6,[.i .i64],false⟩] 68719345736 (zQ (zS [OB 17 6 1 0,eD 20 17 19] (zC 20 .skip (.exit 0))) (zQ (.block 1 (zR [bV 3 23 3,ai 27 6,jr 24 4 1,gP 26 4 2,fJ 28 183 26 27,OM 29 25 28 4 1 1,dX 31 186 30,zEn 32 31,XK 33 31 1 32,Ke 34 33,Kh 23 34 35 23 3])) (zR [dZ 21 6 6]))))))) (zS [qd 3 36 3 2] .ret))))))
def KQ:aI:=⟨[.rd true qa],(.one false dF)⟩
def yZ:aH:=aA [(180,yP),(182,n_),(183,wh),(186,qZ)]
def y_ (n:Nat):bK->Option ((List Int) × Unit):=aC n yZ yY [bv] [.sl [.i .i64]] [] [2] .no
def mO:=y_ BIG
def zb:TSp:=⟨KQ,[bv],[.sl [.i .i64]],[],Ou.j .no,mO⟩
theorem abd:aM PG yZ 124 KQ (yY.ht 37) .no=some (yY.wc yZ,[2]):=by kernel_rfl
theorem Js:zb.Ok PG 124:=aN (ae AY (ae qY (ae xF (ae uZ (aj PG))))) abd (by kernel_rfl)
theorem abe (n) (a0):y_ n a0 = (uw a0).bind fun r0=> bif !r0.1 then some ([],()) else (lK (a0,(0:Int))).bind fun r1=> (aJ n (X:=(List Int) × Int) (B:=(List Int)) (fun self3 x2=> bif decide (x2.2<a0.1) then (jT ((r1.1.1,r1.1.2.1),x2.2)).bind fun r4=> bnd r1.1.2.1.length r4.1 fun n5=> r1.1.2.1[n5]?.bind fun y6=> (iy y6).bind fun r7=> bnd r7.1.length (0:Int) fun n8=> r7.1[n8]?.bind fun y9=> bif decide (x2.1.length+[y9].length<=4294967296) then self3 (x2.1++[y9],IntKind.wrap .i64 (x2.2+(1:Int))) else none else some x2.1) ([],(0:Int)):Option ((List Int))).bind fun x10=> some (x10,()):=by kernel_rfl
def Gu:TC:=
 (zS [iK 1 0] (zQ (.seq (.join [⟨12,[.b],false⟩] 8184 none (zR [fK 3 1 0 3,nH 5 42 4 3,iH 6 5,ai 7 6,vW 8 4,zGe 9 1 1 8 2 4,XO 180 9 10 10 4,qN 11 10 4 7])) (zC 12 (zS [aZ 2] .ret) .skip)) (zQ (.join [⟨2,[.b],false⟩] 8589926404 none (zR [Kk 13 1 3 4,dX 15 96 14,ai 16 15,vW 17 3,AC 18 17 3,w9 19 1 1 18 3,vW 20 3,zGe 21 1 3 20 4 3,yK 80 19 21 22 22 3,eZ 23 22 3,Ti 24 10 1 6,ko 27 10,zGj 28 1 1 27 2 10,zEv 124 28 29 29 10,kR 181 26 29 30 30 10,AO 23 30 31 31 3 16,ai 2 32])) .ret)))
def TP:aI:=⟨[.rd true Jj],(.one false [.d])⟩
def Gv:aH:=aA [(42,dG),(180,yP),(96,O4),(80,Cu),(124,zb),(181,uA)]
def Gw (n:Nat):mJ->Option ((Bool) × Unit):=aC n Gv Gu [gF] [.b] [] [2] .no
def xG:=Gw BIG
def TQ:TSp:=⟨TP,[gF],[.b],[],Ou.j .no,xG⟩
theorem ag5:aM PG Gv 118 TP (Gu.ht 33) .no=some (Gu.wc Gv,[2]):=by kernel_rfl
theorem adj:TQ.Ok PG 118:=aN (ae dA (ae AY (ae aa_ (ae KP (ae Js (ae A7 (aj PG))))))) ag5 (by kernel_rfl)
theorem ag6 (n) (a0):Gw n a0 = ((bf (a0.1,(1:Int),(3:Int))).bind fun r0=> bif !r0.1 then some true else (uw (a0.2.1,a0.2.2.1)).bind fun r1=> some !r1.1:Option (Bool)).bind fun x2=> bif x2 then some (false,()) else ((Cq a0.2.2.2).bind fun r3=> bif r3.1 then some true else (u6 (a0.2.1,a0.2.2.2)).bind fun r4=> bif r4.1 then (mO (a0.2.1,a0.2.2.1)).bind fun r5=> (nA (a0.2.2.2.2.2.2,r5.1)).bind fun r6=> some r6.1 else some false:Option (Bool)).bind fun x7=> some (x7,()):=by kernel_rfl
def Gx:TC:=
 (zS [iK 3 1] (zQ (.seq (.join [⟨26,[.b],false⟩] 134217696 none (zR [ai 5 0,nH 6 42 5 12,iH 7 6,ai 8 7,vW 9 3,w9 10 3 0 9 3,Ov 42 10 100000 11 11 3,qc 12 11 3 8,iJ 15 9 3 1 9,Ov 42 16 4 17 17 9,qc 18 17 9 14,eZ 21 0 15,EJ 22 15 3 2,yK 139 21 23 24 24 15,qN 25 24 15 20])) (zC 26 (zS [aZ 4] .ret) .skip)) (zQ (zS [bF 27 3 1] (.block 0 (zS [Kl 30 28 3] (zC 29 (zQ (.join [⟨4,[.b],false⟩] 4395899027472 none (zR [OO 31 3 2,tJ 34 33 0,qf 35 34 4 3 3 4,eQ 38 0 4,zLC 39 38 4 42 37 4,kU 35 40 41 4])) .ret) (zS [jD 43 28 4 42] (zC 42 (zQ (.join [⟨4,[.b],false⟩] 8989607068696592 none (zR [OO 44 3 2,SS 47 46 0,qf 48 47 4 3 3 4,Oz 51 50 4,kU 48 51 52 4])) .ret) .skip)))))) (zQ (.join [⟨4,[.b],false⟩] 4602678819172646928 none (zR [OO 53 3 2,tJ 56 55 1,qf 57 56 4 3 3 4,Oz 60 59 4,kU 57 60 61 4])) .ret))))
def TU:aI:=⟨[.rd false [.d],.rd true EC],(.one false [.d])⟩
def Gy:aH:=aA [(42,dG),(139,nZ)]
def Gz (n:Nat):Int × lU->Option ((Bool) × Unit):=aC n Gy Gx [[.i .i64],eX] [.b] [] [4] .no
def xH:=Gz BIG
def GA:TSp:=⟨TU,[[.i .i64],eX],[.b],[],Ou.j .no,xH⟩
theorem ag7:aM PG Gy 119 TU (Gx.ht 62) .no=some (Gx.wc Gy,[4]):=by kernel_rfl
theorem O6:GA.Ok PG 119:=aN (ae dA (ae qU (aj PG))) ag7 (by kernel_rfl)
theorem ag8 (n) (a0) (a1):Gz n (a0,a1) = ((bf (a0,(1:Int),(12:Int))).bind fun r0=> bif !r0.1 then some true else (bf (a1.1,(1:Int),(100000:Int))).bind fun r1=> bif !r1.1 then some true else (bf (a1.2.1,(1:Int),(4:Int))).bind fun r2=> bif !r2.1 then some true else (lJ (a0,a1.2.2.1)).bind fun r3=> some !r3.1:Option (Bool)).bind fun x4=> bif x4 then some (false,()) else bif decide (a1.2.1=(3:Int)) then (bif decide ((a1.2.2.1.length:Int)=(0:Int)) then (bf (a1.2.2.2,(0:Int),IntKind.wrap .i64 (a0-(1:Int)))).bind fun r5=> some r5.1 else some false:Option (Bool)).bind fun x6=> some (x6,()) else bif decide (a1.2.1=(4:Int)) then (bif decide ((0:Int)<(a1.2.2.1.length:Int)) then some (decide (a1.2.2.2=(0:Int))) else some false:Option (Bool)).bind fun x7=> some (x7,()) else (bif decide ((a1.2.2.1.length:Int)=(1:Int)) then some (decide (a1.2.2.2=(0:Int))) else some false:Option (Bool)).bind fun x8=> some (x8,()):=by kernel_rfl
def o_:TC:=
 (zS [bW 1 0,Jl 2 1000000003] (zS [S_ 3,fK 4 1 2 4,vU 3 5 6 3,d_ 7,AJ 6 2 7 6] (zS [S9 8,fK 9 1 3 9,vU 8 10 11 8,d_ 12,AJ 11 3 12 11] (zS [nY 13 1 4 2 2 1] .ret))))
def ze:aI:=⟨[.rd true Az],(.one true Az)⟩
def pg:aH:=aA []
def pq (n:Nat):iC->Option (iC × Unit):=aC n pg o_ [fQ] fQ [] [2] .no
def ic:=pq BIG
def pu:TSp:=⟨ze,[fQ],fQ,[],Ou.j .no,ic⟩
theorem QR:aM PG pg 120 ze (o_.ht 14) .no=some (o_.wc pg,[2]):=by kernel_rfl
theorem xg:pu.Ok PG 120:=aN (aj PG) QR (by kernel_rfl)
theorem QS (n) (a0):pq n a0 = bif decide (0+a0.2.2.1.length<=4294967296) then bif decide (0+a0.2.2.2.length<=4294967296) then some ((a0.1,a0.2.1,[]++a0.2.2.1,[]++a0.2.2.2),()) else none else none:=by kernel_rfl
def GD:TC:=
 (zS [bW 1 0,zBE 2 1000000003] (zS [[o1 3 (.sli kH [])],d_ 4,yJ 5 4,EE 6 1 2 5,vU 3 6 7 3,d_ 8,yJ 9 8,AJ 7 2 9 7] (zS [Kk 10 1 3 4,dX 12 120 11,d_ 13,AJ 12 3 13 12] (zS [nY 14 1 7 2 2 1] .ret))))
def TV:aI:=⟨[.rd true Jj],(.one true Jj)⟩
def GG:aH:=aA [(120,pu)]
def GH (n:Nat):mJ->Option (mJ × Unit):=aC n GG GD [gF] gF [] [2] .no
def rC:=GH BIG
def TW:TSp:=⟨TV,[gF],gF,[],Ou.j .no,rC⟩
theorem ag9:aM PG GG 115 TV (GD.ht 15) .no=some (GD.wc GG,[2]):=by kernel_rfl
theorem adk:TW.Ok PG 115:=aN (ae xg (aj PG)) ag9 (by kernel_rfl)
theorem ag_ (n) (a0):GH n a0 = bif decide (0+a0.2.2.1.length<=4294967296) then (ic a0.2.2.2).bind fun r0=> some ((a0.1,a0.2.1,[]++a0.2.2.1,r0.1),()) else none:=by kernel_rfl
def GI:TC:=
 (zS [bW 2 0,iK 3 1] (zS [fK 5 2 1 5,dw 7 3 2,fJ 8 143 6 7,ai 4 8] .ret))
def TZ:aI:=⟨[.rd true Ot,.rd true [.d,.d]],(.one false [.d])⟩
def GJ:aH:=aA [(143,qi)]
def GK (n:Nat):kJ × aF->Option ((Bool) × Unit):=aC n GJ GI [gI,[.i .i64,.i .i64]] [.b] [] [4] .no
def rD:=GK BIG
def xI:TSp:=⟨TZ,[gI,[.i .i64,.i .i64]],[.b],[],Ou.j .no,rD⟩
theorem aha:aM PG GJ 129 TZ (GI.ht 9) .no=some (GI.wc GJ,[4]):=by kernel_rfl
theorem Cv:xI.Ok PG 129:=aN (ae qW (aj PG)) aha (by kernel_rfl)
theorem ahb (n) (a0) (a1):GK n (a0,a1) = (mM (a0.2,a1)).bind fun r0=> some (r0.1,()):=by kernel_rfl
def KR:TC:=
 (zS [bW 3 1,vX 4] (zS [S_ 8,bV 8 5 8] (zQ (.join [⟨5,[.sl [.i .i64,.i .i64]],false⟩] 268435040 none (zS [bD 6] (.block 0 (.loop [⟨5,[.sl [.i .i64,.i .i64]],false⟩,⟨6,[.i .i64],false⟩] 268435040 (zQ (zS [cB 9 6 0,tL 11 10 9] (zC 12 .skip (.exit 0))) (zQ (.join [⟨5,[.sl [.i .i64,.i .i64]],false⟩] 268402720 none (.block 1 (zS [OE 15 0 6 2 2,xf 19 3 2 187 18] (zC 20 (zR [bV 5 21 5,OE 22 0 6 2 2,EN 26 25 21 21 5]) .skip)))) (zR [dZ 13 6 6]))))))) (zS [bV 5 28 5,dw 29 3 2,EN 30 29 28 28 5] (zQ (.join [⟨5,[.sl [.i .i64,.i .i64]],false⟩] 2251795518718112 none (zS [bD 7] (.block 2 (.loop [⟨5,[.sl [.i .i64,.i .i64]],false⟩,⟨7,[.i .i64],false⟩] 2251795518718112 (zQ (zS [AL 32 7 0] (zC 35 .skip (.exit 2))) (zQ (.join [⟨5,[.sl [.i .i64,.i .i64]],false⟩] 2251524935778336 none (.block 3 (zS [cB 39 0 7,dw 38 3 2,jq 41 39 40 2 2,fJ 43 187 38 42] (zC 43 (zR [bV 5 44 5,OE 45 0 7 2 2,EN 49 48 44 44 5]) .skip)))) (zR [dZ 36 7 7]))))))) (zS [qd 5 51 5 4] .ret))))))
def X8:aI:=⟨[.rd false fE,.rd true [.d,.d]],(.one false fE)⟩
def KS:aH:=aA [(187,F_)]
def KU (n:Nat):(List aF) × aF->Option ((List aF) × Unit):=aC n KS KR [[.sl [.i .i64,.i .i64]],[.i .i64,.i .i64]] [.sl [.i .i64,.i .i64]] [] [4] .no
def mP:=KU BIG
def qj:TSp:=⟨X8,[[.sl [.i .i64,.i .i64]],[.i .i64,.i .i64]],[.sl [.i .i64,.i .i64]],[],Ou.j .no,mP⟩
theorem ajX:aM PG KS 130 X8 (KR.ht 52) .no=some (KR.wc KS,[4]):=by kernel_rfl
theorem rE:qj.Ok PG 130:=aN (ae OU (aj PG)) ajX (by kernel_rfl)
theorem ajY (n) (a0) (a1):KU n (a0,a1) = (aJ n (X:=(List aF) × Int) (B:=(List aF)) (fun self1 x0=> bif decide (x0.2<(a0.length:Int)) then (bnd a0.length x0.2 fun n2=> a0[n2]?.bind fun y3=> (qR (y3,a1)).bind fun r4=> bif r4.1 then bnd a0.length x0.2 fun n5=> a0[n5]?.bind fun y6=> bif decide (x0.1.length+[y6].length<=4294967296) then some (x0.1++[y6]) else none else some x0.1:Option ((List aF))).bind fun x7=> self1 (x7,IntKind.wrap .i64 (x0.2+(1:Int))) else some x0.1) ([],(0:Int)):Option ((List aF))).bind fun x8=> bif decide (x8.length+[a1].length<=4294967296) then (aJ n (X:=(List aF) × Int) (B:=(List aF)) (fun self10 x9=> bif decide (x9.2<(a0.length:Int)) then (bnd a0.length x9.2 fun n11=> a0[n11]?.bind fun y12=> (qR (a1,y12)).bind fun r13=> bif r13.1 then bnd a0.length x9.2 fun n14=> a0[n14]?.bind fun y15=> bif decide (x9.1.length+[y15].length<=4294967296) then some (x9.1++[y15]) else none else some x9.1:Option ((List aF))).bind fun x16=> self10 (x16,IntKind.wrap .i64 (x9.2+(1:Int))) else some x9.1) (x8++[a1],(0:Int)):Option ((List aF))).bind fun x17=> some (x17,()) else none:=by kernel_rfl
def GL:TC:=
 (zS [bW 2 0,bW 3 1,Ta 4 1000000005,aZ 5] (zQ (.seq (.join [⟨20,[.b],false⟩] 2097088 none (zR [dw 6 2 2,dX 7 127 6,iH 8 7,ai 9 8,iJ 10 3 2 0 3,OG 12 3 2 3 128 11 3,qc 14 13 3 9,AB 17 2 2 10,AB 18 3 2 10,yK 129 17 18 19 19 10,tC 16 19 20])) (zC 20 (zS [zGo 21,dW 4 21 4 21,aZ 5] .ret) .skip)) (zS [kT 22 2 0 2 1,xf 26 3 2 130 25,zGp,dW 4 28 4 28,gH 5] .ret)))
def T9:aI:=⟨[.rd true Ot,.rd true [.d,.d]],(.tup [(true,2),(false,1)] [.d,.sl (.own none) [.d,.d],.d])⟩
def GM:aH:=aA [(127,xD),(128,v_),(129,xI),(130,qj)]
def GN (n:Nat):kJ × aF->Option ((Int × List aF × Bool) × Unit):=aC n GM GL [gI,[.i .i64,.i .i64]] agG [] [4,5] .no
def GQ:=GN BIG
def T_:TSp:=⟨T9,[gI,[.i .i64,.i .i64]],agG,[],Ou.j .no,GQ⟩
theorem ahc:aM PG GM 44 T9 (GL.ht 29) .no=some (GL.wc GM,[4,5]):=by kernel_rfl
theorem adl:T_.Ok PG 44:=aN (ae Cc (ae xC (ae Cv (ae rE (aj PG))))) ahc (by kernel_rfl)
theorem ahd (n) (a0) (a1):GN n (a0,a1) = ((qV a0).bind fun r0=> bif !r0.1 then some true else (qg (a0.1,a1)).bind fun r1=> bif !r1.1 then some true else (rD (a0,a1)).bind fun r2=> some r2.1:Option (Bool)).bind fun x3=> bif x3 then some (((0:Int),[],false),()) else (mP (a0.2,a1)).bind fun r4=> some ((a0.1,r4.1,true),()):=by kernel_rfl
def KV:TC:=
 (zS [bW 3 1,[o1 4 (.lit kG [.slice none 0 0])]] (zS [[o1 8 (.sli kH [])],bV 8 5 8] (zQ (.join [⟨5,kG,false⟩] 1125899906842208 none (zS [bD 6] (.block 0 (.loop [⟨5,kG,false⟩,⟨6,[.i .i64],false⟩] 1125899906842208 (zQ (zS [cB 9 6 0,tL 11 10 9] (zC 12 .skip (.exit 0))) (zQ (.join [⟨5,kG,false⟩] 1125899906809888 none (.block 1 (zQ (.join [⟨42,[.b],false⟩] 8796092989440 none (zR [cB 15 0 6,XQ 17 15 16 4,bF 20 3 0,eD 22 19 21,ai 23 22,eZ 24 0 8,Tk 25 6 8 24 8,AC 27 26 8,Td 28 24 4 27 8,iJ 29 8 3 0 8,zDs 31 28 30 8,eZ 32 31 8,eQ 33 0 17,eQ 34 6 17,mH 35 33 34 17,yL 36 35 17,zGq 37 33 4 1 36 17,xe 38 17 3 1,zDp 40 37 39 17,AO 32 40 41 41 8 23])) (zC 42 (zR [bV 5 43 5,OE 44 0 6 4 4,zGr 48 47,Kh 43 48 49 43 5]) .skip)))) (zR [dZ 13 6 6]))))))) (zS [bV 5 50 5,dw 51 3 4,zGr 52 51,Kh 50 52 53 50 5] (zQ (.join [⟨5,kG,false⟩] 39614081257114154398262493344 none (zS [bD 7] (.block 2 (.loop [⟨5,kG,false⟩,⟨7,[.i .i64],false⟩] 39614081257114154398262493344 (zQ (zS [AL 54 7 0] (zC 57 .skip (.exit 2))) (zQ (.join [⟨5,kG,false⟩] 39614081255979247292165128224 none (.block 3 (zQ (.join [⟨87,[.b],false⟩] 309485008668423564117934080 none (zR [cB 60 0 7,XQ 62 60 61 4,bF 65 3 0,zGs 67 64 66,ai 68 67,eZ 69 0 8,Tk 70 7 8 69 8,AC 72 71 8,Td 73 69 4 72 8,iJ 74 8 3 0 8,zDs 76 73 75 8,eZ 77 76 8,eQ 78 0 17,eQ 79 7 17,mH 80 78 79 17,yL 81 80 17,zGq 82 78 4 1 81 17,xe 83 17 3 1,[o2 85 (.data (.bin .gtr) [.t 82,.t 84]) 17 true],AO 77 85 86 86 8 68])) (zC 87 (zR [bV 5 88 5,OE 89 0 7 4 4,zGr 93 92,Kh 88 93 94 88 5]) .skip)))) (zR [dZ 58 7 7]))))))) (zS [qd 5 95 5 4] .ret))))))
def X9:aI:=⟨[.rd false [.sl (.own none) [.d,.d,.d,.d]],.rd true [.d,.d,.d,.d]],(.one false [.sl (.own none) [.d,.d,.d,.d]])⟩
def KW:aH:=aA []
def KX (n:Nat):(List fF) × fF->Option ((List fF) × Unit):=aC n KW KV [kG,kH] kG [] [4] .no
def KY:=KX BIG
def X_:TSp:=⟨X9,[kG,kH],kG,[],Ou.j .no,KY⟩
theorem ajZ:aM PG KW 184 X9 (KV.ht 96) .no=some (KV.wc KW,[4]):=by kernel_rfl
theorem ahe:X_.Ok PG 184:=aN (aj PG) ajZ (by kernel_rfl)
theorem aj0 (n) (a0) (a1):KX n (a0,a1) = (aJ n (X:=(List fF) × Int) (B:=(List fF)) (fun self1 x0=> bif decide (x0.2<(a0.length:Int)) then ((bnd a0.length x0.2 fun n2=> a0[n2]?.bind fun y3=> bif decide (y3.1<a1.1) then some true else bnd a0.length x0.2 fun n4=> a0[n4]?.bind fun y5=> bif decide (y5.1=a1.1) then bnd a0.length x0.2 fun n6=> a0[n6]?.bind fun y7=> some (decide (y7.2.1<a1.2.1)) else some false:Option (Bool)).bind fun x8=> bif x8 then bnd a0.length x0.2 fun n9=> a0[n9]?.bind fun y10=> bif decide (x0.1.length+[y10].length<=4294967296) then some (x0.1++[y10]) else none else some x0.1:Option ((List fF))).bind fun x11=> self1 (x11,IntKind.wrap .i64 (x0.2+(1:Int))) else some x0.1) ([],(0:Int)):Option ((List fF))).bind fun x12=> bif decide (x12.length+[a1].length<=4294967296) then (aJ n (X:=(List fF) × Int) (B:=(List fF)) (fun self14 x13=> bif decide (x13.2<(a0.length:Int)) then ((bnd a0.length x13.2 fun n15=> a0[n15]?.bind fun y16=> bif decide (a1.1<y16.1) then some true else bnd a0.length x13.2 fun n17=> a0[n17]?.bind fun y18=> bif decide (y18.1=a1.1) then bnd a0.length x13.2 fun n19=> a0[n19]?.bind fun y20=> some (decide (a1.2.1<y20.2.1)) else some false:Option (Bool)).bind fun x21=> bif x21 then bnd a0.length x13.2 fun n22=> a0[n22]?.bind fun y23=> bif decide (x13.1.length+[y23].length<=4294967296) then some (x13.1++[y23]) else none else some x13.1:Option ((List fF))).bind fun x24=> self14 (x24,IntKind.wrap .i64 (x13.2+(1:Int))) else some x13.1) (x12++[a1],(0:Int)):Option ((List fF))).bind fun x25=> some (x25,()) else none:=by kernel_rfl
def KZ:TC:=
 (zS [bW 2 0,bW 3 1,EG 4 1000000005,aZ 5] (zS [zGt 1000000007 2 12 12,zGu 1000000007 123 12 13 13,zGt 1000000007 3 14 14,zGv 1000000007 44 13 14 15 15,zLy 1000000007 15 11 15 11,Ta 6 1000000007,vZ 6 16 6 16] (zQ (.seq (.join [⟨24,[.b],false⟩] 33292288 none (zR [vY 18 2 2 180,kI 20 19,eZ 22 7 3,qN 23 22 3 21])) (zC 24 (zS [zBC 25,dW 4 25 4 25,aZ 5] .ret) .skip)) (zS [dw 27 2 2,zGd 28 182 27,OL 28 26 28 2 2,zEh 8 1000000009,vZ 8 29 8 29] (zS [Jm 1000000011 31 31 3 0,Jm 1000000011 33 33 3 1,zGB 1000000011 8 2 35 35,Jm 1000000011 36 36 3 0,zGv 1000000011 183 35 37 38 38,zGB 1000000011 8 2 39 39,Jm 1000000011 40 40 3 1,zGv 1000000011 183 39 41 42 42,[⟨false,[],[1000000011],.det 1 (.data (.bin .neq) [.t 38,.t 42]),[43],(some 43),none⟩,⟨false,[],[1000000011],.det 1 (.build kH [(0,.t 32),(1,.t 34),(3,.t 43)]),[44],(some 44),none⟩],Ow 10 1000000011,df 10 10 44] (zS [kT 45 2 0 2 1,xf 49 10 4 184 48,[o5 (.build bv [(0,.t 46),(1,.t 50)]) 51 50],dW 4 51 4 51,gH 5] .ret))))))
def Ya:aI:=⟨[.rd true qa,.rd true [.d,.d]],(.tup [(true,2),(false,1)] Ct5)⟩
def K3:aH:=aA [(123,qQ),(44,T_),(180,yP),(182,n_),(183,wh),(184,X_)]
def K4 (n:Nat):bK × aF->Option (Zt9 × Unit):=aC n K3 KZ [bv,[.i .i64,.i .i64]] VP [] [4,5] .no
def wm:=K4 BIG
def Yb:TSp:=⟨Ya,[bv,[.i .i64,.i .i64]],VP,[],Ou.j .no,wm⟩
theorem aj1:aM PG K3 121 Ya (KZ.ht 52) .no=some (KZ.wc K3,[4,5]):=by kernel_rfl
theorem ahf:Yb.Ok PG 121:=aN (ae uY (ae adl (ae AY (ae qY (ae xF (ae ahe (aj PG))))))) aj1 (by kernel_rfl)
theorem aj2 (n) (a0) (a1):K4 n (a0,a1) = (iX a0).bind fun r0=> (GQ (r0.1,a1)).bind fun r1=> ((uw a0).bind fun r2=> bif !r2.1 then some true else some !r1.1.2.2:Option (Bool)).bind fun x3=> bif x3 then some (((0:Int),[],false),()) else (lK (a0,(0:Int))).bind fun r4=> (jT ((r4.1.1,r4.1.2.1),a1.1)).bind fun r5=> (jT ((r4.1.1,r4.1.2.1),a1.2)).bind fun r6=> (KY (a0.2,(a1.1,a1.2,(0:Int),!decide (r5.1=r6.1)))).bind fun r7=> some ((a0.1,r7.1,true),()):=by kernel_rfl
def zf:TC:=
 (zS [bW 3 0,bW 4 1,[o1 6 (.lit kG [.slice none 0 0])],bD 7] (zS [[o1 18 (.sli kH [])],bF 19 3 1,Kh 18 20 21 18 8] (zS [EP 23 3 2 2,fJ 25 182 23 24,OL 25 22 25 2 2,zEh 9 1000000010,vZ 9 26 9 26] (zS [jr 28 9 1,gP 30 9 2,bF 31 4 0,fJ 33 183 30 32,OM 34 29 33 9 1 1,dX 36 186 35,bV 36 11 36] (zS [jr 37 9 1,gP 39 9 2,bF 40 4 1,fJ 42 183 39 41,OM 43 38 42 9 1 1,dX 45 186 44,bV 45 12 45] (zQ (.join [⟨11,[.sl [.i .i64]],false⟩] 4433230883198976 none (zS [eU 46 12,je 47 46,eU 48 11,tL 49 48 47] (zC 50 (zR [Tc 12 51 12 46 51,Tc 51 11 51 48 11]) .skip))) (zS [dZ 52 2 13] (zQ (.join [⟨13,[.i .i64],false⟩] 54043195528454144 none (zS [ai 54 13,SS 55 54 4] (zC 55 (zR [kg 13 4]) .skip))) (zQ (.join [⟨8,kG,false⟩] 1237940039213322680861212928 none (zS [bD 14] (.block 0 (.loop [⟨8,kG,false⟩,⟨14,[.i .i64],false⟩] 1237940039213322680861212928 (zQ (zS [ai 56 14,eU 57 8,tL 58 57 56] (zC 59 .skip (.exit 0))) (zQ (.join [⟨8,kG,false⟩] 1237940034817809444547592448 none (.block 1 (zQ (.join [⟨84,[.b],false⟩] 38685621615982115163209728 none (zR [Jp 62 8 14,Tf 64 62 63,zBf 66 8 4 3 65,ai 67 66,Oy 8 68 68 5,eQ 69 14 5,mH 70 68 69 5,yL 71 70 5,zGq 72 8 4 2 71 5,eQ 73 2 5,Tq 74 72 73 5 67,Oy 11 77 77 14,Oy 8 78 78 14,eQ 79 14 14,mH 80 78 79 14,yL 81 80 14,w_ 82 8 4 81 14,kR 204 77 82 83 83 14,lF 76 83 84])) (zC 84 (zR [eU 85 8,cB 86 14 13,Tf 88 85 86,[o4 1 [8,57,62,85] (.store 8 [(0,4)] 2 (.t 89) (.t 87))]]) .skip)))) (zR [OJ 60 14]))))))) (zQ (.join [⟨8,kG,false⟩] 713623846352979939291202945439367293292478912 (some [⟨6,kG,false⟩,⟨7,[.i .i64],false⟩]) (zS [bD 15] (.block 2 (.loop [⟨8,kG,false⟩,⟨15,[.i .i64],false⟩] 713623846352979939291202945583482481368334784 (zQ (zS [ai 90 15,eU 91 8,tL 92 91 90] (zC 93 .skip (.exit 2))) (zQ (.join [⟨8,kG,false⟩] 713623846352979863776860549031170524445868480 (some [⟨6,kG,false⟩,⟨7,[.i .i64],false⟩]) (.block 3 (zS [eU 96 11,Jp 97 8 15,Tf 99 97 98,XK 101 8 4 100,fJ 102 204 96 101,ai 16 102] (zS [eU 103 11,Jp 104 8 15,Tf 106 104 105,zBf 108 8 4 1 107,fJ 109 204 103 108,ai 17 109] (zQ (.seq (.join [⟨133,[.b],false⟩] 21778070184865847027949067743009083228160 none (zR [AP 110 3 1 15,zMg 113 111 112 4 3,ai 116 115,iJ 117 6 3 1 6,Tk 119 15 6 118 6,AC 121 120 6,[o2 122 (.load 118 [(0,4)] 2 (.t 121) 1 false) 6 false],eZ 123 2 6,EM 124 122 123 6 116,ai 126 125,eZ 127 16 16,zBn 128 127 16,eZ 129 128 16,eQ 130 17 19,zDz 131 130 19,AO 129 131 132 132 16 126])) (zC 133 (.exit 3) .skip)) (zQ (.seq (.join [⟨137,[.b],false⟩] 326671072244100924924839623134497482997760 none (zR [ai 134 16,Jq 135 134 17 1,lF 135 136 137])) (zC 137 (zS [eU 138 8,cB 139 15 13,Tf 141 138 139,[o4 1 [8,91,97,104,138] (.store 8 [(0,4)] 2 (.t 142) (.t 140))]] (.exit 3)) .skip)) (zS [Jp 143 8 15,Tf 145 143 144,[o4 1 [8,91,97,104,143] (.store 8 [(0,4)] 3 (.t 146) (.c [.b] [.bool true]))]] (zS [[⟨false,[],[],.det 2 (.copy 8),[147,8,99,100,106,107,145,146],(some 147),none⟩],ai 148 15,bV 147 6 147,ai 7 148] .ret)))))))) (zR [OJ 94 15]))))))) (zS [Tc 8 149 8 91 149,bV 149 6 149,zEw 7] .ret)))))))))))
def K5:aI:=⟨[.rd true qa,.rd true [.d,.d],.rd false [.d]],(.tup [(false,1),(false,1)] [.sl (.own none) [.d,.d,.d,.d],.d])⟩
def zg:aH:=aA [(182,n_),(183,wh),(186,qZ),(204,oQ)]
def zh (n:Nat):bK × aF × Int->Option ((List fF × Int) × Unit):=aC n zg zf [bv,[.i .i64,.i .i64],[.i .i64]] [.sl kH,.i .i64] [] [6,7] .no
def mQ:=zh BIG
def K6:TSp:=⟨K5,[bv,[.i .i64,.i .i64],[.i .i64]],[.sl kH,.i .i64],[],Ou.j .no,mQ⟩
theorem abf:aM PG zg 185 K5 (zf.ht 150) .no=some (zf.wc zg,[6,7]):=by kernel_rfl
theorem YU:K6.Ok PG 185:=aN (ae qY (ae xF (ae uZ (ae qh (aj PG))))) abf (by kernel_rfl)
theorem abg (n) (a0) (a1) (a2):zh n (a0,a1,a2) =
 bif decide (0+a0.2.length<=4294967296) then
  (lK (a0,a2)).bind fun r0=>
  (jT ((r0.1.1,r0.1.2.1),a1.1)).bind fun r1=>
  bnd r0.1.2.1.length r1.1 fun n2=>
  r0.1.2.1[n2]?.bind fun y3=>
  (iy y3).bind fun r4=>
  (jT ((r0.1.1,r0.1.2.1),a1.2)).bind fun r5=>
  bnd r0.1.2.1.length r5.1 fun n6=>
  r0.1.2.1[n6]?.bind fun y7=>
  (iy y7).bind fun r8=>
  (bif decide ((r8.1.length:Int)<(r4.1.length:Int)) then
   some r8.1
   else some r4.1:Option ((List Int))).bind fun x9=>
  (bif decide ((4:Int)<(IntKind.wrap .i64 (a2+(1:Int)))) then
   some (4:Int)
   else some (IntKind.wrap .i64 (a2+(1:Int))):Option (Int)).bind fun x10=>
  (aJ n (X:=(List fF) × Int) (B:=(List fF)) (fun self12 x11=>
   bif decide (x11.2<(x11.1.length:Int)) then
    ((bnd x11.1.length x11.2 fun n13=>
     x11.1[n13]?.bind fun y14=>
     bif y14.2.2.2 then
      bnd x11.1.length x11.2 fun n15=>
      x11.1[n15]?.bind fun y16=>
      bif decide (y16.2.2.1=a2) then
       bnd x11.1.length x11.2 fun n17=>
       x11.1[n17]?.bind fun y18=>
       (gQ (x9,y18.1)).bind fun r19=>
       some r19.1
      else some false
     else some false:Option (Bool)).bind fun x20=>
     bif x20 then
      bnd x11.1.length x11.2 fun n21=>
      x11.1[n21]?.bind fun y22=>
      some (x11.1.set n21 (y22.1,y22.2.1,x10,y22.2.2.2))
     else some x11.1:Option ((List fF))).bind fun x23=>
    self12 (x23,IntKind.wrap .i64 (x11.2+(1:Int)))
   else some x11.1) ([]++a0.2,(0:Int)):Option ((List fF))).bind fun x24=>
  (aJ n (X:=(List fF) × Int) (B:=((List fF)) ⊕ ((List fF) × Int)) (fun self26 x25=>
   bif decide (x25.2<(x25.1.length:Int)) then
    (bnd x25.1.length x25.2 fun n27=>
     x25.1[n27]?.bind fun y28=>
     (gQ (x9,y28.1)).bind fun r29=>
     bnd x25.1.length x25.2 fun n30=>
     x25.1[n30]?.bind fun y31=>
     (gQ (x9,y31.2.1)).bind fun r32=>
     (bnd a0.2.length x25.2 fun n33=>
      a0.2[n33]?.bind fun y34=>
      bif y34.2.2.2 then
       some true
      else bnd a0.2.length x25.2 fun n35=>
      a0.2[n35]?.bind fun y36=>
      bif !decide (y36.2.2.1=a2) then
       some true
      else bif !r29.1 then
       some !r32.1
      else some false:Option (Bool)).bind fun x37=>
     bif x37 then
      some (Sum.inl x25.1)
     else (bif r29.1 then
      some r32.1
      else some false:Option (Bool)).bind fun x38=>
     bif x38 then
      bnd x25.1.length x25.2 fun n39=>
      x25.1[n39]?.bind fun y40=>
      some (Sum.inl (x25.1.set n39 (y40.1,y40.2.1,x10,y40.2.2.2)))
     else bnd x25.1.length x25.2 fun n41=>
     x25.1[n41]?.bind fun y42=>
     some (Sum.inr (x25.1.set n41 (y42.1,y42.2.1,y42.2.2.1,true),x25.2)):Option (((List fF)) ⊕ ((List fF) × Int))).bind fun y=>match y with
    | .inl x43=>
     self26 (x43,IntKind.wrap .i64 (x25.2+(1:Int)))
    | .inr x43=>
     some (Sum.inr (x43.1,x43.2))
   else some (Sum.inl x25.1)) (x24,(0:Int)):Option (((List fF)) ⊕ ((List fF) × Int))).bind fun y=>match y with
  | .inl x44=>
   some ((x44,(-1:Int)),())
  | .inr x44=>
   some (x44,())
 else none:=by kernel_rfl
def GR:TC:=
 (zS [bW 2 0,bW 3 1,EG 4 1000000005,lG 5 1000000006,aZ 6,aZ 7] (zQ (.seq (.join [⟨23,[.b],false⟩] 16760832 none (zR [vY 14 2 2 180,kI 16 15,AB 18 2 2 3,XO 123 18 19 19 3,OG 20 3 2 3 129 19 3,qN 22 21 3 17])) (zC 23 (zS [zBC 24,zGC 25,dW 4 24 4 24,df 5 5 25,zGD,aZ 7] .ret) .skip)) (zS [bF 26 2 0,zBD 28 27,EG 8 1000000009,dW 8 28 8 28] (zS [[o1 29 (.build kH [])],Ow 9 1000000010,df 9 9 29] (zQ (.join [⟨9,kH,false⟩,⟨8,bv,false⟩] 4722366482868571473664 none (zS [bD 10] (.block 0 (.loop [⟨9,kH,false⟩,⟨8,bv,false⟩,⟨10,[.i .i64],false⟩] 4722366482868571473664 (zQ (zS [OI 30 10 2 1 33] (zC 34 .skip (.exit 0))) (zQ (.join [⟨9,kH,false⟩,⟨8,bv,false⟩] 4722366482732206260992 none (.block 1 (zQ (.join [⟨56,[.b],false⟩] 144115050636902400 none (zR [ai 39 10,bF 37 2 1,XQ 40 38 39 4,bF 43 3 0,mI 45 42 44,qf 46 45 9 2 1 9,eQ 49 10 9,mH 50 48 49 9,yL 51 50 9,zGq 52 48 4 1 51 9,tN 53 9 3 1 9,XM 55 52 54 9,lF 46 55 56])) (zC 56 (zR [AP 57 2 1 10,jq 60 58 59 4 4,df 9 9 61]) (zR [ai 66 10,jr 62 8 1,bF 64 2 1,jq 67 65 66 4 4,zGr 69 68,OH 63 63 69 70 63 63 8 70 8 8 1]))))) (zR [OJ 35 10]))))))) (zQ (zS [bF 72 9 3,iH 74 73] (zC 74 (zS [gP 75 8 2,zGC 76,vV 75 4 75 4 75 75 8,df 5 5 76,zGD,gH 7] .ret) .skip)) (zQ (.join [⟨8,bv,false⟩,⟨4,bv,false⟩,⟨5,[.i .i64,.i .i64],false⟩] 81129638263490954243960358320624 (some [⟨4,bv,false⟩,⟨5,[.i .i64,.i .i64],false⟩,⟨6,[.b],false⟩,⟨7,[.b],false⟩]) (zS [[⟨false,[],[3000008001],.det 1 (.idx .nil),[77,8],(some 77),none⟩],EE 78 9 2 77,ai 11 78] (.block 2 (.loop [⟨8,bv,false⟩,⟨4,bv,false⟩,⟨5,[.i .i64,.i .i64],false⟩,⟨11,[.i .i64],false⟩] 81129637810143771888474417805808 (zQ (zS [ai 79 11,zGE 80 79] (zC 80 .skip (.exit 2))) (zQ (.block 3 (zS [dw 84 8 2,EP 85 3 2 11,Ox 87 185 84 85 86,OL 87 83 87 1 1,bV 88 12 88,ai 13 89] (zS [zEk 12 12 90 12 90,qP 91 8 8 1 90] (zS [ai 92 13,zGE 93 92] (zC 93 (zS [ai 95 12,ai 96 13,ai 100 12,ai 101 13,dw 94 8 2,zHa 4 95 96 97 97,zHb 4 97 98 98,zHc 4 95 4 0 98 1 99 99,zHa 4 100 101 102 102,zHb 4 102 103 103,zHc 4 100 4 1 103 1 104 104,[⟨false,[],[4],.det 1 (.build [.i .i64,.i .i64] [(0,.t 99),(1,.t 104)]),[105],(some 105),none⟩],df 4 4 94,df 5 5 105,gH 6,gH 7] .ret) .skip))))) (zR [ai 81 11,tH 82 81,ai 11 82]))))))) (zS [dw 106 8 2,zGC 107,df 4 4 106,df 5 5 107,aZ 6,gH 7] .ret))))))))
def Ua:aI:=⟨[.rd true qa,.rd true [.d,.d]],(.tup [(true,2),(true,2),(false,1),(false,1)] [.d,.sl (.ro []) [.d,.d,.d,.d],.d,.d,.d,.d])⟩
def GU:aH:=aA [(180,yP),(123,qQ),(129,xI),(185,K6)]
def GV (n:Nat):bK × aF->Option (Zt8 × Unit):=aC n GU GR [bv,[.i .i64,.i .i64]] Ty6 [] [4,5,6,7] .no
def jU:=GV BIG
def Ub:TSp:=⟨Ua,[bv,[.i .i64,.i .i64]],Ty6,[],Ou.j .no,jU⟩
theorem ahg:aM PG GU 122 Ua (GR.ht 108) .no=some (GR.wc GU,[4,5,6,7]):=by kernel_rfl
theorem adm:Ub.Ok PG 122:=aN (ae AY (ae uY (ae Cv (ae YU (aj PG))))) ahg (by kernel_rfl)
theorem ahh (n) (a0) (a1):GV n (a0,a1) = ((uw a0).bind fun r0=> bif !r0.1 then some true else (iX a0).bind fun r1=> (rD (r1.1,a1)).bind fun r2=> some !r2.1:Option (Bool)).bind fun x3=> bif x3 then some (((0:Int),[],(0:Int),(0:Int),false,false),()) else (aJ n (X:=fF × bK × Int) (B:=fF × bK) (fun self5 x4=> bif decide (x4.2.2<(a0.2.length:Int)) then ((bnd a0.2.length x4.2.2 fun n6=> a0.2[n6]?.bind fun y7=> bif decide (y7.1=a1.1) then bnd a0.2.length x4.2.2 fun n8=> a0.2[n8]?.bind fun y9=> some (decide (y9.2.1=a1.2)) else some false:Option (Bool)).bind fun x10=> bif x10 then bnd a0.2.length x4.2.2 fun n11=> a0.2[n11]?.bind fun y12=> some (y12,x4.2.1) else bnd a0.2.length x4.2.2 fun n13=> a0.2[n13]?.bind fun y14=> bif decide (x4.2.1.2.length+[y14].length<=4294967296) then some (x4.1,(x4.2.1.1,x4.2.1.2++[y14])) else none:Option (fF × bK)).bind fun x15=> self5 (x15.1,x15.2,IntKind.wrap .i64 (x4.2.2+(1:Int))) else some (x4.1,x4.2.1)) (((0:Int),(0:Int),(0:Int),false),(a0.1,[]),(0:Int)):Option (fF × bK)).bind fun x16=> bif !x16.1.2.2.2 then some ((x16.2.1,x16.2.2,(0:Int),(0:Int),false,true),()) else (aJ n (X:=bK × bK × aF × Int) (B:=(bK × bK × aF) ⊕ (bK × aF × Bool × Bool)) (fun self18 x17=> bif decide ((0:Int)<=x17.2.2.2) then (mQ (x17.1,a1,x17.2.2.2)).bind fun r19=> bif decide ((0:Int)<=r19.1.2) then bnd r19.1.1.length r19.1.2 fun n20=> r19.1.1[n20]?.bind fun y21=> bnd r19.1.1.length r19.1.2 fun n22=> r19.1.1[n22]?.bind fun y23=> some (Sum.inr ((x17.1.1,r19.1.1),(y21.1,y23.2.1),true,true)) else self18 ((x17.1.1,r19.1.1),x17.2.1,x17.2.2.1,IntKind.wrap .i64 (x17.2.2.2-(1:Int))) else some (Sum.inl (x17.1,x17.2.1,x17.2.2.1))) (x16.2,((0:Int),[]),((0:Int),(0:Int)),x16.1.2.2.1):Option ((bK × bK × aF) ⊕ (bK × aF × Bool × Bool))).bind fun y=>match y with | .inl x24=> some ((x24.1.1,x24.1.2,(0:Int),(0:Int),false,true),()) | .inr x24=> some ((x24.1.1,x24.1.2,x24.2.1.1,x24.2.1.2,x24.2.2),()):=by kernel_rfl
end
end Go.Fw
