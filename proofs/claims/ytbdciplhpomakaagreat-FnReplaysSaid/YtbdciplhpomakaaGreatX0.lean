/- The given functions, as what they compute; each is shown to be what the code does. No conditions. -/
import Derived.Test.YtbdciplhpomakaaGreatG5
import Derived.Test.YtbdciplhpomakaaGreatProg
set_option linter.unusedSectionVars false
namespace Go.Fw
noncomputable abbrev PG:=Go.Proofs.Tryz.prog
def o2 (d:Nat) (e:ED) (j:Nat) (b:Bool):TO:=⟨false,[],[],.det 1 e,[d],some d,some (j,b)⟩
def o3 (d:Nat) (K:FuncId) (gets:List OY):TO:=⟨false,[],[],.call 1 K gets .no,[d],some d,none⟩
def o4 (n:Nat) (ds:List Nat) (e:ED):TO:=⟨false,[],[],.det n e,ds,none,none⟩
abbrev Ty0 : List TY := [.i .i64, .sl [.i .i64], .sl [.i .i64, .i .i64], .sl [.sl [.i .i64]], .sl [.i .i64], .i .i64, .i .i64, .i .i64, .i .i64, .i .i64, .i .i64, .i .i64, .sl [.i .i64, .i .i64], .i .i64, .sl [.i .i64, .i .i64, .i .i64, .i .i64, .i .i64, .i .i64], .i .i64]
abbrev Ty1 : List TY := [.i .i64, .sl [.i .i64], .sl [.i .i64, .i .i64], .sl [.sl [.i .i64]], .sl [.i .i64], .i .i64, .i .i64, .i .i64, .i .i64, .i .i64, .i .i64, .i .i64, .sl [.i .i64, .i .i64], .i .i64, .sl [.i .i64, .i .i64, .i .i64, .i .i64, .i .i64, .i .i64], .b]
abbrev bC : List TY := [.i .i64, .sl [.i .i64], .sl [.i .i64, .i .i64], .sl [.sl [.i .i64]], .sl [.i .i64], .i .i64, .i .i64, .i .i64, .i .i64, .i .i64, .i .i64, .i .i64, .sl [.i .i64, .i .i64], .i .i64, .sl [.i .i64, .i .i64, .i .i64, .i .i64, .i .i64, .i .i64]]
abbrev Ty3 : List TY := [.i .i64, .i .i64, .sl [.i .i64, .i .i64, .i .i64, .i .i64, .i .i64, .i .i64, .i .i64, .b, .sl [.i .i64, .i .i64], .sl [.i .i64], .i .i64, .i .i64, .sl [.i .i64, .i .i64], .i .i64]]
abbrev Ty4 : List TY := [.i .i64, .i .i64, .sl [.i .i64, .i .i64, .i .i64, .b], .i .i64, .b, .sl [.i .i64, .i .i64], .sl [.i .i64], .i .i64, .b, .sl [.i .i64, .i .i64], .sl [.i .i64], .i .i64]
abbrev yn : List TY := [.sl [.i .i64, .i .i64, .i .i64, .i .i64, .i .i64, .i .i64, .i .i64, .b, .sl [.i .i64, .i .i64], .sl [.i .i64], .i .i64, .i .i64, .sl [.i .i64, .i .i64], .i .i64]]
abbrev Ty6 : List TY := [.i .i64, .i .i64, .i .i64, .i .i64, .i .i64, .i .i64, .i .i64, .b, .sl [.i .i64, .i .i64], .sl [.i .i64], .i .i64, .i .i64, .sl [.i .i64, .i .i64], .i .i64]
abbrev Ty7 : List TY := [.sl [.i .i64, .i .i64, .sl [.i .i64, .i .i64, .i .i64, .b], .i .i64, .b, .sl [.i .i64, .i .i64], .sl [.i .i64]]]
abbrev Ty8 : List TY := [.i .i64, .i .i64, .sl [.i .i64, .i .i64, .i .i64, .b], .i .i64, .b, .sl [.i .i64, .i .i64], .sl [.i .i64], .b]
abbrev gJ : List TY := [.i .i64, .i .i64, .sl [.i .i64, .i .i64, .i .i64, .b], .i .i64, .b, .sl [.i .i64, .i .i64], .sl [.i .i64]]
abbrev DD : List TY := [.i .i64, .i .i64, .i .i64, .i .i64, .i .i64, .i .i64, .i .i64, .sl [.i .i64, .i .i64], .i .i64]
abbrev apa : List TY := [.i .i64, .sl [.i .i64, .i .i64, .i .i64, .b], .i .i64, .i .i64, .b, .b]
abbrev N7 : List TY := [.sl [.i .i64, .i .i64, .i .i64, .i .i64, .i .i64, .i .i64]]
abbrev apb : List TY := [.i .i64, .i .i64, .i .i64, .i .i64, .i .i64, .i .i64]
abbrev iF : List TY := [.i .i64, .b, .sl [.i .i64, .i .i64], .sl [.i .i64]]
abbrev kw : List TY := [.i .i64, .i .i64, .sl [.i .i64, .i .i64], .i .i64]
abbrev N8 : List TY := [.i .i64, .sl [.i .i64, .i .i64, .i .i64, .b], .b]
abbrev bH : List TY := [.i .i64, .sl [.i .i64, .i .i64, .i .i64, .b]]
abbrev apc : List TY := [.i .i64, .sl [.i .i64, .i .i64], .b]
abbrev oJ : List TY := [.sl [.i .i64, .i .i64, .i .i64, .b]]
abbrev fO : List TY := [.i .i64, .i .i64, .i .i64, .i .i64]
abbrev kM : List TY := [.i .i64, .sl [.i .i64, .i .i64]]
abbrev gT : List TY := [.sl [.i .u8], .i .i64, .i .i64]
abbrev qF : List TY := [.i .i64, .i .i64, .i .i64, .b]
abbrev tZ : List TY := [.i .i64, .sl [.sl [.i .i64]]]
abbrev Ct0:List CT:=[.d,.sl (.own none) [.d],.sl (.own none) [.d,.d],.sl (.own none) [.sl (.own none) [.d]],.sl (.own none) [.d],.d,.d,.d,.d,.d,.d,.d,.sl (.own none) [.d,.d],.d,.sl (.own none) [.d,.d,.d,.d,.d,.d],.d]
abbrev oV:List CT:=[.d,.sl (.own none) [.d],.sl (.own none) [.d,.d],.sl (.own none) [.sl (.own none) [.d]],.sl (.own none) [.d],.d,.d,.d,.d,.d,.d,.d,.sl (.own none) [.d,.d],.d,.sl (.own none) [.d,.d,.d,.d,.d,.d]]
abbrev Ct2:List CT:=[.sl (.own none) [.d,.d,.d,.d,.d,.d,.d,.d,.sl (.own none) [.d,.d],.sl (.own none) [.d],.d,.d,.sl (.own none) [.d,.d],.d]]
abbrev Ct3:List CT:=[.d,.d,.sl (.own none) [.d,.d,.d,.d],.d,.d,.sl (.own none) [.d,.d],.sl (.own none) [.d],.d]
abbrev N9:List CT:=[.d,.d,.sl (.own none) [.d,.d,.d,.d],.d,.d,.sl (.own none) [.d,.d],.sl (.own none) [.d]]
abbrev MJ:List CT:=[.d,.d,.sl (.own none) [.d,.d],.sl (.own none) [.d]]
abbrev Ct6:List CT:=[.d,.d,.d,.d,.d,.d,.d,.sl (.own none) [.d,.d],.d]
abbrev Ct7:List CT:=[.d,.sl (.own none) [.d,.d,.d,.d],.d]
abbrev Ct8:List CT:=[.sl (.own none) [.d,.d,.d,.d,.d,.d]]
abbrev N_:List CT:=[.d,.d,.sl (.own none) [.d,.d],.d]
abbrev nE:List CT:=[.d,.sl (.own none) [.d,.d,.d,.d]]
abbrev Oa:List CT:=[.d,.sl (.own none) [.d,.d]]
abbrev iG:List CT:=[.sl (.own none) [.d,.d]]
abbrev apd:List CT:=[.sl (.own none) [.d],.d]
abbrev fF:List CT:=[.sl (.own none) [.d]]
abbrev ape:List CT:=[.d,.d,.d,.d,.d,.d]
def oc (d s:Nat):TO:=o1 d (.copy s)
def oi (d:Nat):TO:=o1 d (.idx .nil)
def o5 (e:ED) (d x:Nat):TO:=⟨false,[],[],.det 2 e,[d,x],some d,none⟩
def o6 (d s:Nat):TO:=⟨true,[],[],.det 1 (.copy s),[d],some d,none⟩
def o7 (a:Nat) (x y:DX) (d:Nat):TO:=⟨false,[],[],.pick a x y,[d],some d,none⟩
abbrev kV (n:Int):Value:=.int .i64 n
abbrev kO (n:Int):OY:=.c [.i .i64] [kV n]
abbrev kD (n:Int):DX:=.c (kV n)
abbrev kL (n:Int):ED:=.lit [.i .i64] [kV n]
abbrev iI:TY:=.i .i64
def zS (l:List (List TO)) (c:TC):TC:=.seq (.rg l.flatten) c
def zR (l:List (List TO)):TC:=.rg l.flatten
def zQ (a b:TC):TC:=.seq a b
def zC (x:Nat) (a b:TC):TC:=.cond (.t x) a b
def bz (a:Nat):List TO:=[o1 a (.lit [.b] [.bool false])]
def au (a b:Nat):List TO:=[oc a b]
def l9 (a b:Nat):List TO:=[o1 a (.len b)]
def Yn (a b:Nat)(c:Int):List TO:=[o1 a (.data (.bin .gtr) [.t b,kD c])]
def zAe (a:Nat)(b:Int)(c:Nat):List TO:=[o1 a (.data (.bin .add) [kD b,.t c])]
def bK (a:Nat):List TO:=[o1 a (kL 0)]
def gy (a b c:Nat):List TO:=[o1 a (.data (.bin .lss) [.t b,.t c])]
def iE (a b c:Nat):List TO:=[o2 a (.copy b) c true]
def zAi (a b:Nat)(c:Int)(d:Nat):List TO:=[o2 a (.data (.bin .lss) [.t b,kD c]) d true]
def oW (a b c:Nat):List TO:=[o7 a (.t b) (.c (.bool false)) c]
def zAk (a b:Nat)(c:Int):List TO:=[o1 a (.data (.bin .mul) [.t b,kD c])]
def wW (a b c:Nat):List TO:=[o1 a (.index b (.t c))]
def Yo (a b c d:Nat):List TO:=[o1 a (.load b [(0,c)] 0 (.t d) 1 false)]
def zAo (a b c:Nat):List TO:=[o1 a (.data (.bin .add) [.t b,.t c])]
def zAp (a b:Nat)(c:Int):List TO:=[o1 a (.data (.bin .and) [.t b,kD c])]
def BK (a b:Nat):List TO:=[o1 a (.data (.bin .add) [.t b,kD 1])]
def dK (a b:Nat):List TO:=[o1 a (.a (.t b))]
def dA (a:Nat):List TO:=[o1 a (.p0)]
def rV (a b:Nat):List TO:=[o1 a (.same b)]
def Jn (a b:Nat):List TO:=[o1 a (.idx (.t b))]
def Ob (a b c d:Nat):List TO:=[o1 a (.load b [] c (.t d) 1 false)]
def zAw (a b c d e:Nat):List TO:=[o4 1 [a] (.store b [] c (.t d) (.t e))]
def zAx (a b c:Nat):List TO:=[o1 a (.data (.bin .shr) [.t b,.c (.int .u64 (c))])]
def zAy (a b:Nat)(c:Int):List TO:=[o1 a (.data (.bin .leq) [.t b,kD c])]
def zAz (a b c:Nat):List TO:=[⟨false,[],[],.call 2 a [.t 0] (.mp 0),[b,0],(some c),none⟩]
def zAA (a b c:Nat):List TO:=[o1 a (.data (.bin .rem) [.t b,.t c])]
def zAB (a:Nat)(b:Int)(c d e:Nat):List TO:=[⟨false,[],[],.call 2 112 [.t a,kO b] (.mp 0),[c,d],(some e),none⟩]
def zAC (a b c:Nat):List TO:=[o1 a (.data (.bin .geq) [.t b,.t c])]
def zAD:List TO:=[o2 13 (.data (.bin .leq) [.t 11,.t 12]) 3 true]
def yu (a:Nat):List TO:=[o1 a (.lit [.sl [.i .i64]] [.slice none 0 0])]
def zBa (a:Nat):List TO:=[o1 a (.sli [.i .i64] [])]
def dC (a b c:Nat):List TO:=[o5 (.copy a) b c]
def Jo (a b:Nat):List TO:=[o1 a (.sli [.i .i64] [.t b])]
def yw (a b c d:Nat):List TO:=[o5 (.app (some a) b) c d]
def gN (a b:Nat):List TO:=[o6 a b]
def zBf (a b c d e:Nat):List TO:=[o1 a (.load b [(0,c)] d (.t e) 1 false)]
def zBg (a b c d e f g h:Nat):List TO:=[o4 1 [a,b] (.store c [(d,e)] f (.t g) (.t h))]
def p_ (a b:Nat):List TO:=[o5 (.a (.c bC [kV 0,.slice none 0 0,.slice none 0 0,.slice none 0 0,.slice none 0 0,kV 0,kV 0,kV 0,kV 0,kV 0,kV 0,kV 0,.slice none 0 0,kV 0,.slice none 0 0])) a b]
def oZ (a b c:Nat)(d:Int):List TO:=[o3 a b [.t c,kO 1,kO d]]
def jN (a b:Nat):List TO:=[o1 a (.data .not [.t b])]
def jH (a b c:Nat):List TO:=[o2 a (.copy b) c false]
def zBm (a b:Nat)(c:Int)(d e f:Nat):List TO:=[⟨false,[],[],.call 1 a [.t b,kO 1,kO c] .no,[d],(some e),some (f,false)⟩]
def zBn (a b c:Nat):List TO:=[o2 a (.data .not [.t b]) c false]
def qU (a b c:Nat):List TO:=[o7 a (.c (.bool true)) (.t b) c]
def zBp (a:Nat):List TO:=[o1 a (.build bC [])]
def iZ (a b c d:Nat):List TO:=[o4 2 [a,b] (.store c [] 0 .nil (.t d))]
def jq (a:Nat):List TO:=[oi a]
def zBs (a b c d:Nat):List TO:=[o1 a (.load b [] c (.t d) 1 true)]
def zBt (a b c d e f g h:Nat):List TO:=[⟨false,[a],[],.det 2 (.app (some b) c),[d,e,f,g],(some h),none⟩]
def zBu (a b c d e f g:Nat):List TO:=[o4 2 [a,b,c] (.store d [] e (.t f) (.t g))]
def Yp (a:Nat):List TO:=[o1 a (.sli [.i .i64,.i .i64] [])]
def jI (a b c d:Nat):List TO:=[o3 a b [.t c,.t d]]
def zBx (a b c:Nat):List TO:=[o5 (.sli [.sl [.i .i64]] [.t a]) b c]
def zBy (a b c d e f g h i:Nat):List TO:=[⟨false,[a],[],.det 3 (.app (some b) c),[d,e,f,g,h],(some i),none⟩]
def jf (a b c:Nat):List TO:=[o1 a (.load b [] 0 .nil c true)]
def FN (a b c d e f g:Nat):List TO:=[⟨false,[a],[],.det 2 (.store b [] 0 .nil (.t c)),[d,e,f,g],none,none⟩]
def gX (a:Nat):List TO:=[o1 a (.lit [.b] [.bool true])]
def DI (a b:Nat):List TO:=[o5 (.a (.c bH [kV 0,.slice none 0 0])) a b]
def zBD (a:Nat):List TO:=[o1 a (.build bH [])]
def zBE (a b:Nat):List TO:=[o1 a (.build bH [(0,.t b)])]
def DJ (a b:Nat):List TO:=[o5 (.a (.c gJ [kV 0,kV 0,.slice none 0 0,kV 0,.bool false,.slice none 0 0,.slice none 0 0])) a b]
def gz (a b c:Nat):List TO:=[o3 a b [.t c]]
def zDc (a b c d:Nat):List TO:=[o5 (.ext a 0 b) c d]
def uo (a b c:Nat):List TO:=[o1 a (.ext b c 1)]
def zDe (a:Nat):List TO:=[o1 a (.build gJ [])]
def zDf:List TO:=[⟨false,[22],[],.det 2 (.build gJ [(0,.t 21),(1,.t 22)]),[23,22,22,6],(some 23),none⟩]
def zDg (a b:Nat)(c:Int):List TO:=[o1 a (.data (.bin .quo) [.t b,kD c])]
def nU (a:Nat)(b:Int):List TO:=[o1 a (kL b)]
def zDi (a b:Nat)(c:Int):List TO:=[o1 a (.data (.bin .neq) [.t b,kD c])]
def SG (a b c d:Nat):List TO:=[⟨false,[],[],.call 2 a [.t 0,.t b] (.mp 0),[c,0],(some d),none⟩]
def zDk (a b:Nat):List TO:=[o5 (.a (.c fO [kV 0,kV 0,kV 0,kV 0])) a b]
def dR (a b c:Nat):List TO:=[o4 1 [a] (.store b [] 0 .nil (.t c))]
def wX (a b:Nat)(c:Int):List TO:=[o1 a (.data (.bin .eql) [.t b,kD c])]
def dM (a b c:Nat):List TO:=[o1 a (.load b [] 0 .nil c false)]
def zDp (a b:Nat):List TO:=[o5 (.a (.c kw [kV 0,kV 0,.slice none 0 0,kV 0])) a b]
def FO (a b c d:Nat):List TO:=[o4 2 [1,a] (.store 1 [] b (.t c) (.t d))]
def zDr (a b c d e f:Nat):List TO:=[⟨false,[],[],.det 3 (.app (some a) b),[c,d,e],(some f),none⟩]
def Jp (a b c d e:Nat):List TO:=[o1 a (.load b [] c (.t d) e false)]
def qV (a b:Nat):List TO:=[o2 a (.idx .nil) b true]
def BL (a b c d e:Nat):List TO:=[o2 a (.load b [] c (.t d) 1 false) e true]
def zDv (a b c:Nat):List TO:=[o2 a (.data (.bin .sub) [.t b,kD 1]) c true]
def zDw (a b c d e f:Nat):List TO:=[⟨false,[],[],.call 1 a [.t b,kO 0,.t c] .no,[d],(some e),some (f,true)⟩]
def zDx (a b c d:Nat):List TO:=[o2 a (.data (.bin .lss) [.t b,.t c]) d true]
def rW (a b:Nat):List TO:=[o2 a (.idx .nil) b false]
def BM (a b c d e:Nat):List TO:=[o2 a (.load b [] c (.t d) 1 false) e false]
def zDA (a b c d:Nat):List TO:=[o2 a (.data (.bin .eql) [.t b,.t c]) d false]
def zDB (a b c d e:Nat):List TO:=[⟨false,[],[],.pick a (.t b) (.c (.bool false)),[c],(some d),some (e,false)⟩]
def zDC (a b c d e:Nat):List TO:=[o1 a (.load b [(0,c)] 0 (.t d) e false)]
def zDD (a b:Nat)(c:Int)(d:Nat):List TO:=[o2 a (.data (.bin .gtr) [.t b,kD c]) d false]
def qW (a b c d:Nat):List TO:=[o2 a (.index b (.t c)) d true]
def zEa (a b c d e f:Nat):List TO:=[o2 a (.load b [(0,c)] 0 (.t d) e false) f true]
def qa (a b c d e f:Nat):List TO:=[⟨false,[],[],.call 1 a [.t b,.t c] .no,[d],(some e),some (f,true)⟩]
def zEc (a b c:Nat):List TO:=[o2 a (.data .not [.t b]) c true]
def wY (a b c:Nat):List TO:=[o1 a (.data (.bin .neq) [.t b,.t c])]
def Yq (a b c d:Nat):List TO:=[o3 a b [.t c,kO 0,.t d]]
def zEf (a b c d:Nat):List TO:=[o2 a (.index b (.t c)) d false]
def Yr (a b c d e:Nat):List TO:=[o2 a (.load b [(0,c)] 0 (.t d) 1 false) e false]
def zEh (a b c d:Nat):List TO:=[o2 a (.data (.bin .neq) [.t b,.t c]) d false]
def o8 (a b c:Nat):List TO:=[o1 a (.data (.bin .eql) [.t b,.t c])]
def zEj (a:Nat):List TO:=[o1 a (kL (-1))]
def zEk (a b c:Nat):List TO:=[o1 a (.eqA [.i,.i] (.t b) (.t c) true)]
def DK (a b c d:Nat):List TO:=[o2 a (.data (.bin .eql) [.t b,.t c]) d true]
def zEn (a b c:Nat):List TO:=[o1 a (.eqA [.i,.i,.i,.i] (.t b) (.t c) false)]
def Oc (a b c:Nat):List TO:=[o2 a (.data (.bin .eql) [.t b,kD 0]) c true]
def zEp (a b c d e f:Nat):List TO:=[o2 a (.load b [] c (.t d) e false) f true]
def yx (a b c d e f:Nat):List TO:=[⟨false,[],[],.call 1 a [.t b,.t c] .no,[d],(some e),some (f,false)⟩]
def zEr (a b c:Nat):List TO:=[o2 a (.data (.bin .sub) [.t b,kD 1]) c false]
def zEs (a b:Nat)(c:Int)(d e f g:Nat):List TO:=[⟨false,[],[],.call 1 a [.t b,kO c,.t d] .no,[e],(some f),some (g,false)⟩]
def zEt (a b c:Nat)(d:Int)(e:Nat):List TO:=[o3 a b [.t c,kO d,.t e]]
def yz (a b:Nat):List TO:=[o1 a (.data (.bin .sub) [.t b,kD 1])]
def zEv (a b c d:Nat):List TO:=[o2 a (.data (.bin .neq) [.t b,.t c]) d true]
def zEw (a b:Nat):List TO:=[o5 (.a (.c DD [kV 0,kV 0,kV 0,kV 0,kV 0,kV 0,kV 0,.slice none 0 0,kV 0])) a b]
def Jq (a b c:Nat):List TO:=[o2 a (.idx (.t b)) c true]
def BN (a b c d e:Nat):List TO:=[o2 a (.load b [(0,c)] 0 (.t d) 1 false) e true]
def zEz (a b c:Nat):List TO:=[o2 a (.data (.bin .add) [.t b,kD 1]) c true]
def zEA (a b c d:Nat):List TO:=[o2 a (.load b [] 0 .nil c false) d true]
def zEB (a b c d e:Nat):List TO:=[⟨false,[],[],.call 1 a [.t b,kO 1,kO 100000] .no,[c],(some d),some (e,true)⟩]
def Jr (a b c:Nat):List TO:=[o2 a (.len b) c false]
def zED (a b:Nat)(c d:Int)(e f g:Nat):List TO:=[⟨false,[],[],.call 1 a [.t b,kO c,kO d] .no,[e],(some f),some (g,false)⟩]
def zEE (a b:Nat):List TO:=[o5 (.a (.c apb [kV 0,kV 0,kV 0,kV 0,kV 0,kV 0])) a b]
def BP (a b c d:Nat):List TO:=[o2 a (.load b [] 0 .nil c false) d false]
def zGb (a b c:Nat):List TO:=[o1 a (.load 0 [] b (.t c) 1 true)]
def zGc (a b c d:Nat):List TO:=[o1 a (.build apb [(0,.t b),(1,.t c),(5,.t d)])]
def zGd (a b:Nat):List TO:=[o1 a (.sli apb [.t b])]
def zGe (a:Nat):List TO:=[o1 a (.build DD [])]
def zGf (a b c d e f:Nat):List TO:=[o4 2 [a,b] (.store c [] d (.t e) (.t f))]
def MK (a b c:Nat):List TO:=[o1 a (.build [.i .i64,.i .i64] [(0,.t b),(1,.t c)])]
def zGh (a b:Nat):List TO:=[o1 a (.sli [.i .i64,.i .i64] [.t b])]
def zGi (a b c d e:Nat):List TO:=[o1 a (.load b [(c,d)] 0 (.t e) 1 false)]
def zGj:List TO:=[⟨false,[22],[],.det 2 (.build DD [(0,.t 20),(4,.t 21),(5,.t 22)]),[23,22,22,7],(some 23),none⟩]
def zGk:List TO:=[o4 2 [0,23,12,15] (.store 0 [] 5 (.t 25) (.t 23))]
def qX (a b:Nat):List TO:=[o5 (.a (.c [.i .i64,.i .i64] [kV 0,kV 0])) a b]
def AR (a:Nat):List TO:=[o1 a (.lit [.sl [.i .i64,.i .i64]] [.slice none 0 0])]
def zGo (a b c d:Nat):List TO:=[o4 2 [0,a,16,19,24,27,48,b] (.store 0 [] 2 (.t c) (.t d))]
def Od (a b c:Nat)(d:Int)(e f g:Nat):List TO:=[⟨false,[],[],.call 2 a [.t b,.t c,kO d] (.mp 0),[e,f],(some g),none⟩]
def zGq (a b:Nat)(c:Int)(d:Nat):List TO:=[o2 a (.data (.bin .geq) [.t b,kD c]) d false]
def SH (a b c d e:Nat):List TO:=[⟨false,[],[],.call 1 a [.t b] .no,[c],(some d),some (e,false)⟩]
def DL (a b c d e:Nat):List TO:=[o3 a b [.t c,.t d,.t e]]
def zGt (a b c d e f g:Nat):List TO:=[⟨false,[],[],.call 2 a [.t b,.t c,.t d] (.mp 0),[e,f],(some g),none⟩]
def zGu (a b c d:Nat):List TO:=[⟨false,[],[a],.det 1 (.load 3 [] 0 .nil b false),[c],(some d),none⟩]
def zGv (a b c:Nat):List TO:=[⟨false,[],[a],.det 1 (.idx .nil),[b],(some c),none⟩]
def zGw (a b c d e f:Nat):List TO:=[⟨false,[],[a],.det 1 (.load b [] c (.t d) 1 false),[e],(some f),none⟩]
def zGx (a b c d e:Nat):List TO:=[⟨false,[],[a],.det 1 (.index b (.t c)),[d],(some e),none⟩]
def zGy (a b c d e f g:Nat):List TO:=[⟨false,[],[a],.det 1 (.load b [(c,d)] 0 (.t e) 1 false),[f],(some g),none⟩]
def zGz (a b:Nat):List TO:=[o5 (.build kw [(1,kO 3),(3,.t a)]) b 1000000002]
def zGA (a b c d e f g h i:Nat):List TO:=[⟨false,[],[],.call 3 a [.t b,.t c,.t d,.t e] (.mp 0),[f,g,h],(some i),none⟩]
def zGB (a b c d e f:Nat):List TO:=[⟨false,[],[],.call 2 a [.t b,.t c] (.mp 0),[d,e],(some f),none⟩]
def zGC (a b:Nat):List TO:=[o5 (.a (.c kM [kV 0,.slice none 0 0])) a b]
def SI (a b:Nat):List TO:=[o5 (.a (.c qF [kV 0,kV 0,kV 0,.bool false])) a b]
def zGE (a b c d:Nat):List TO:=[o2 a (.data (.bin .geq) [.t b,.t c]) d true]
def zHa (a b c d e f g:Nat):List TO:=[o4 1 [a,b] (.store c [(d,e)] f (.t g) (.c [.b] [.bool true]))]
def zHb (a b:Nat):List TO:=[o5 (.a (.c tZ [kV 0,.slice none 0 0])) a b]
def zHc (a b c d e f:Nat):List TO:=[⟨false,[a],[],.det 2 (.store b [] 0 .nil (.t c)),[d,e,f],none,none⟩]
def zHd (a b c d e:Nat):List TO:=[⟨true,[a],[],.det 1 (.copy b),[c,d],(some e),none⟩]
def Yt (a b c d e:Nat):List TO:=[⟨false,[],[],.det 2 (.copy a),[b,c,d],(some e),none⟩]
def zHf (a b:Nat):List TO:=[o1 a (.index b (kD 0))]
def SL (a b c d:Nat):List TO:=[⟨true,[],[],.det 1 (.copy a),[b],(some c),some (d,true)⟩]
def zHh (a b c:Nat):List TO:=[o2 a (.len b) c true]
def zHi (a b c d e:Nat):List TO:=[⟨false,[],[],.call 1 a [.t b] .no,[c],(some d),some (e,true)⟩]
def zHj (a:Nat):List TO:=[o2 a (.load 6 [] 0 .nil 2 true) 9 true]
def zHk (a:Nat):List TO:=[o1 a (.build iF [])]
def zHm (a b c:Nat):List TO:=[o3 a b [.t c,kO 0]]
def zHn (a b c d e f:Nat):List TO:=[o2 a (.load b [] c (.t d) e false) f false]
def wZ (a b c:Nat):List TO:=[o2 a (.idx (.t b)) c false]
def zHp (a b:Nat):List TO:=[o5 (.a (.c iF [kV 0,.bool false,.slice none 0 0,.slice none 0 0])) a b]
def zHq:List TO:=[o5 (.build kM [(0,.t 23),(1,.t 27)]) 28 27]
def zHr (a b c d e f:Nat):List TO:=[o2 a (.load b [(0,c)] d (.t e) 1 false) f true]
def zHs (a b:Nat):List TO:=[o1 a (.sli qF [.t b])]
def zHt (a b c d:Nat):List TO:=[⟨false,[],[a],.det 1 (.load b [] 0 .nil 2 false),[c],(some d),none⟩]
def zHu (a b c d e:Nat):List TO:=[⟨false,[],[a],.call 1 b [.t c] .no,[d],(some e),none⟩]
def zHv (a b c:Nat):List TO:=[⟨false,[],[a],.det 1 (.load 3 [] 0 .nil 2 false),[b],(some c),none⟩]
def zHw (a b c d e f:Nat):List TO:=[⟨false,[],[a],.call 1 b [.t c,.t d] .no,[e],(some f),none⟩]
def zHx (a b c d e f:Nat):List TO:=[⟨false,[],[a],.det b (.copy c),[d,e],(some f),none⟩]
def zHy (a b c d e:Nat):List TO:=[⟨false,[],[a],.det 2 (.ext b 0 2),[c,d],(some e),none⟩]
def zHz (a b c d:Nat):List TO:=[⟨false,[],[a],.det 1 (.ext b 2 1),[c],(some d),none⟩]
def zHA (a b:Nat):List TO:=[⟨false,[],[1000000011],.det 1 (.load 8 [] 0 .nil 2 true),[a],(some b),none⟩]
def zHB (a:Nat):List TO:=[o1 a (.build [.i .i64,.i .i64] [])]
def zHC:List TO:=[⟨false,[],[3000004001],.det 1 (.lit [.b] [.bool false]),[6,4],(some 6),none⟩]
def zHD (a b:Nat):List TO:=[o1 a (.data (.bin .geq) [.t b,kD 0])]
def zHE (a b c d:Nat):List TO:=[⟨false,[],[a],.det 1 (.idx (.t b)),[c],(some d),none⟩]
def zIa (a b c d e f:Nat):List TO:=[⟨false,[],[a,b],.det 1 (.load c [] 0 .nil d false),[e],(some f),none⟩]
def zIb (a b c d:Nat):List TO:=[⟨false,[],[a,b],.det 1 (.idx .nil),[c],(some d),none⟩]
def zIc (a b c d e f g:Nat):List TO:=[⟨false,[],[a,b],.det 1 (.load c [] d (.t e) 1 false),[f],(some g),none⟩]
def zId (a b c d e:Nat):List TO:=[⟨false,[],[a,b],.det 1 (.index c (kD 0)),[d],(some e),none⟩]
def zIe (a b c d e f g h i:Nat):List TO:=[⟨false,[],[a,b],.det 1 (.load c [(0,d)] e (.t f) g false),[h],(some i),none⟩]
def zIf (a b c d e f g:Nat):List TO:=[⟨false,[],[a,b],.call 1 c [.t d,.t e] .no,[f],(some g),none⟩]
def zIg (a b c d e f:Nat):List TO:=[⟨false,[],[a,b],.det 2 (.copy c),[d,e],(some f),none⟩]
def zIh (a b c d e f g:Nat):List TO:=[⟨false,[],[a,b],.det 1 (.ext c d e),[f],(some g),none⟩]
def zIi (a b c d e f:Nat):List TO:=[⟨false,[],[a,b],.det 1 (.ext c d 1),[e],(some f),none⟩]
def zIj (a b c d:Nat):List TO:=[⟨false,[],[a],.det 2 (.a (.c bH [kV 0,.slice none 0 0])),[b,c],(some d),none⟩]
def zIk (a b c d:Nat):List TO:=[⟨false,[],[a],.det 2 (.a (.c [.i .i64,.i .i64] [kV 0,kV 0])),[b,c],(some d),none⟩]
def zIm (a b c d e:Nat):List TO:=[o5 (.ext a b c) d e]
def zIn (a b c d:Nat):List TO:=[⟨true,[],[],.det 1 (.copy a),[b],(some c),some (d,false)⟩]
def zIo (a b c d:Nat):List TO:=[o1 a (.ext b c d)]
def zIp (a b c d e:Nat):List TO:=[⟨false,[a],[],.det 1 (.copy b),[c,d],(some e),none⟩]
def zIq (a b c d e f:Nat):List TO:=[⟨false,[],[],.det 2 (.copy a),[b,c,d,e],(some f),none⟩]
def zIr (a:Int)(b c d e:Nat):List TO:=[⟨false,[],[],.det 3 (.build kw [(1,kO a),(2,.t b)]),[c,1000000002,d],(some e),none⟩]
def zIs (a b:Nat)(c:Int)(d:Nat):List TO:=[o2 a (.data (.bin .eql) [.t b,kD c]) d true]
def zIt (a:Nat):List TO:=[o1 a (.lit yn [.slice none 0 0])]
def zIu (a b c d e f:Nat):List TO:=[⟨false,[a],[],.det 2 (.copy b),[c,d,e],(some f),none⟩]
def zIv (a:Int)(b c d:Nat):List TO:=[o5 (.build Ty6 [(0,kO a),(b,.t c)]) d 1000000001]
def zIw (a b c:Nat):List TO:=[o5 (.sli Ty6 [.t a]) b c]
def zIx (a b c d e f:Nat):List TO:=[⟨false,[],[a,b],.det 1 (.index c (.t d)),[e],(some f),none⟩]
def zIy (a b c d e f g h:Nat):List TO:=[⟨false,[],[a,b],.det 2 (.ext c d e),[f,g],(some h),none⟩]
def zIz (a b c d:Nat):List TO:=[⟨false,[],[a],.det 2 (.a (.c gJ [kV 0,kV 0,.slice none 0 0,kV 0,.bool false,.slice none 0 0,.slice none 0 0])),[b,c],(some d),none⟩]
def zIA (a b c d:Nat):List TO:=[⟨false,[],[a],.det 2 (.a (.c iF [kV 0,.bool false,.slice none 0 0,.slice none 0 0])),[b,c],(some d),none⟩]
def zIB (a b c d e f g:Nat):List TO:=[⟨false,[a],[],.det 2 (.app (some b) c),[d,e,f],(some g),none⟩]
def zIC (a b:Nat):List TO:=[o1 a (.app none b)]
def zID (a b c:Nat):List TO:=[o2 a (.data (.bin .neq) [.t b,kD 0]) c false]
def zIE (a b c d e f g h i:Nat):List TO:=[⟨false,[],[],.call 2 188 [.t a,.t b,.t c] (.mt d [] 0 e 0),[f,g,h],(some i),none⟩]
def zJa (a b c d:Nat):List TO:=[⟨false,[],[a],.det 1 (.same b),[c],(some d),none⟩]
def zJb (a b c d e f:Nat):List TO:=[⟨false,[],[a],.det 1 (.load b [] 1 (.t c) d true),[e],(some f),none⟩]
def zJc (a b c d:Nat):List TO:=[o4 2 [0,a,12,19,22,27,30,56,59,64,67,b] (.store 0 [] 2 (.t c) (.t d))]
def zJd (a b c d:Nat):List TO:=[o1 a (.load 0 [] b (.t c) d true)]
def zJe (a:Nat)(b:Int)(c d e:Nat):List TO:=[⟨false,[],[],.call 2 73 [.t 0,.t a,kO b] (.mp 0),[c,0,d],(some e),none⟩]
def zJf (a b c:Nat):List TO:=[o2 a (.same b) c true]
def zJg (a b c d:Nat):List TO:=[o2 a (.load b [] 1 (.t c) d true) 3 true]
def zJh (a b c:Nat):List TO:=[o2 a (.same b) c false]
def zJi (a b c d e:Nat):List TO:=[o2 a (.load b [] c (.t d) 1 true) e false]
def zJj (a b c d e f g:Nat):List TO:=[⟨false,[a,b],[],.det 1 (.store c [] 0 .nil (.t d)),[e,f,g],none,none⟩]
def zJk:List TO:=[o5 (.a (.c Ty6 [kV 0,kV 0,kV 0,kV 0,kV 0,kV 0,kV 0,.bool false,.slice none 0 0,.slice none 0 0,kV 0,kV 0,.slice none 0 0,kV 0])) 11 1000000012]
def zJm (a b c d e f:Nat):List TO:=[o1 a (.load b [(c,d)] e (.t f) 1 false)]
def zJn (a b:Nat):List TO:=[⟨false,[],[a,b],.det 1 (.idx (.t 33)),[34],(some 34),none⟩]
def zJo (a b c d e f:Nat):List TO:=[⟨false,[],[a,b],.det 1 (.load c [] 1 (.t d) 2 true),[e],(some f),none⟩]
def zJp (a b c d e f g h i:Nat):List TO:=[⟨false,[a],[],.det 2 (.store b [] 1 (.t c) (.t d)),[e,f,g,h,i],none,none⟩]
def zJq (a b c d e:Nat):List TO:=[⟨false,[],[a,b],.det 1 (.load 8 [] 0 .nil c true),[d],(some e),none⟩]
def zJr (a b c d e f g h:Nat):List TO:=[⟨false,[a],[],.det 2 (.store b [] 0 .nil (.t c)),[d,e,f,g,h],none,none⟩]
def bO (a b c:Nat):List TO:=jq a++Ob (a+1) b c a
def df (a b c:Nat):List TO:=au a b++au (a+1) c
def ny (a b:Nat):List TO:=rV a b++Jn (a+1) a
def zJv (a b:Nat):List TO:=au a b++BK (a+1) a
def kN (a b c d e:Nat):List TO:=wW a b c++zDC (a+1) b d a e
def nz (a b c d:Nat):List TO:=wW a b c++Yo (a+1) b d a
def AU (a b c d:Nat):List TO:=qV a b++BL (a+1) c d a b
def tN (a b c d:Nat):List TO:=zBn a b c++qU d a (a+1)
def yA (a b c:Nat):List TO:=l9 a b++gy (a+1) c a
def yB (a b c d e:Nat):List TO:=rW a b++BM (a+1) c d a e
def vV (a b c d e:Nat):List TO:=qV a b++BL (a+1) c d a e
def ML (a b c d e:Nat):List TO:=zGv a b c++zGw a d e b (b+1) (b+1)
def gY (a b c:Nat):List TO:=zJv a b++au c (a+1)
def zKa (a b:Nat):List TO:=jN a b++au (a+1) a
def lC (a b c:Nat):List TO:=oW a b c++au (c+1) c
def zKc (a b c d:Nat):List TO:=dC a b c++zDc b d (a+1) b
def mM (a b:Nat):List TO:=BK a b++au b a
def AY (a b c:Nat):List TO:=ny a b++zGb (a+2) c (a+1)
def w9 (a b c d e f:Nat):List TO:=jf a b c++FN a d a e a a f
def BQ (a b c d:Nat):List TO:=rW a b++BM (a+1) c d a b
def iP (a b c d:Nat):List TO:=jq a++Ob (a+1) b c d
def Oe (a b c:Nat):List TO:=wW a b c++Jn (a+1) a
def MM (a b c d e:Nat):List TO:=yw a b c d++dC c e c
def Js (a b c d e:Nat):List TO:=wW a b c++Yo (a+1) d e a
def rX (a b:Nat):List TO:=l9 a b++bK (a+1)
def DN (a b c d:Nat):List TO:=tN a b c d++au (a+2) (a+1)
def tO (a b c d:Nat):List TO:=dC a b c++dC b d b
def rY (a b c d:Nat):List TO:=iZ a b c d++au (a+1) (b+1)
def nA (a b c d:Nat):List TO:=oW a b c++au d c
def uq (a b c:Nat):List TO:=jq a++zBs (a+1) b c a
def kP (a b:Nat):List TO:=dK a b++bz (a+1)
def BR (a b c:Nat):List TO:=df a b c++yA (a+2) (a+1) a
def o9 (a b c d e:Nat):List TO:=bO a b c++bO (a+2) d e
def yC (a b c d e:Nat):List TO:=dM a b c++jI (a+1) d e a
def yD (a b:Nat):List TO:=au a b++au (a+1) (b+1)
def AZ (a b c d:Nat):List TO:=dM a b c++gz (a+1) d a
def zKy (a b c d e f g h i:Nat):List TO:=zIf a b c d e f g++zIg a b f h f i
def zKz (a b c d e f g h i j m:Nat):List TO:=zKy a b c d e f g h i++zIy a b h j m (f+1) h (f+1)
def DR (a b c d e:Nat):List TO:=zKc a b c d++uo (a+2) b e
def ut (a b c d e f:Nat):List TO:=au a b++vV (a+1) c d e f
def FP (a b c d e f:Nat):List TO:=zDB a b c d e++qU f c (c+1)
def FQ (a b:Nat):List TO:=dA a++AY (a+1) a b
def SN (a b c d:Nat):List TO:=au a b++bO (a+1) c d
def FR (a b c d e f:Nat):List TO:=wW a b c++zGi (a+1) d e f a
def FU (a b c d:Nat):List TO:=jq a++Jp (a+1) b c a d
def Jt (a b c d e:Nat):List TO:=zEh a b c d++qU e a (a+1)
def SQ (a b c d:Nat):List TO:=Oe a b c++Yo (a+2) b d (a+1)
def Ju (a b:Nat):List TO:=zJv a b++au b (a+1)
def SS (a b c d:Nat):List TO:=df a b c++nz (a+2) a (a+1) d
def SY (a b c:Nat):List TO:=df a b c++gy (a+2) a (a+1)
def Jv (a b c d e:Nat):List TO:=zGh a b++MM c a (a+1) d e
def S9 (a b c d e:Nat):List TO:=df a b c++kN (a+2) a (a+1) d e
def yE (a b c:Nat):List TO:=dA a++dM (a+1) b c
def S_ (a b c d e f g:Nat):List TO:=BP a b c d++yx e f a (a+1) (a+1) g
def yF (a b:Nat)(c:Int)(d:Nat):List TO:=wX a b c++au d a
def zLn (a:Nat):List TO:=jq a++Jn (a+1) a
def MN (a b:Nat):List TO:=au a b++rX (a+1) a
def zLp (a b:Nat):List TO:=qV a b++Jq (a+1) a b
def Yu (a b c d:Nat):List TO:=zLp a b++BL (a+2) c d (a+1) b
def Og (a b c d e f:Nat):List TO:=wW a b c++zDC (a+1) d e a f
def w_ (a b c:Nat):List TO:=au a b++l9 (a+1) c
def BS (a b c d:Nat):List TO:=au a b++iE (a+1) c d
def Oh (a b c d e:Nat):List TO:=SN a b c d++yA e (a+2) a
def Oi (a b c d e f:Nat):List TO:=AU a b c d++AU (a+2) b e f
def Oj (a b c d e f:Nat):List TO:=bO a b c++Js (a+2) d (a+1) e f
def zLx (a b c d e f:Nat):List TO:=zHx a b c d e f++zHy a d (c+1) d (c+1)
def zLy (a b c d e f g h:Nat):List TO:=zIh a b c d e f g++zIi a b c h (f+1) (f+1)
def zLz (a b c d e f g h i:Nat):List TO:=zLy a b c d e f g h++zIi a b c i (f+2) (f+2)
def zLA (a b c d:Nat):List TO:=zKc a b c d++uo (a+2) b d
def zLB (a b c d:Nat):List TO:=BQ a b c d++Jr (a+2) (a+1) b
def FV (a b c:Nat):List TO:=gN a b++au (a+1) c
def Ta (a b c d:Nat):List TO:=ny a b++Ob (a+2) c d (a+1)
def Tc (a b:Nat):List TO:=zBa a++dC a b a
def Td (a b:Nat)(c:Int):List TO:=wX a b c++au (b+1) a
def FW (a b c d:Nat):List TO:=bO a b c++au (a+2) d
def zMc (a b c d e f g:Nat):List TO:=jq a++zBu b c d e f a g
def Yv (a b c d e f g h i j m:Nat):List TO:=zBt a b c d e f g h++zMc (d+1) i d a j m d
def FX (a b c d e f:Nat):List TO:=zKa a b++yB (a+2) c d e f
def zMf (a b c d e:Nat):List TO:=Oe a b c++zBf (a+2) b d e (a+1)
def zMg (a b c d e f:Nat):List TO:=zIb a b c d++zIc a b e f c (c+1) (c+1)
def zMh (a b c d e f:Nat):List TO:=ML a b c d e++zGx a f (b+1) (b+2) (b+2)
def zMi (a b c d e f:Nat):List TO:=zLx a b c d e f++zHz a d (c+2) (c+2)
def zMj (a b c d:Nat):List TO:=zJa a b c d++zHE a c (c+1) (c+1)
def zMk (a b c d e f:Nat):List TO:=zMj a b c d++zJb a e (c+1) f (c+2) (c+2)
def Yw (a b c d e:Nat):List TO:=jH a b c++zEf (a+1) d a e
def Yx (a b c:Nat):List TO:=zLn a++Ob (a+2) b c (a+1)
def Yy (a b c d:Nat):List TO:=gz a b c++dC a d a
def Yz (a b:Nat)(c:Int)(d e f g h:Nat):List TO:=zBm a b c d e f++DN (d+1) d g h
def Jw (a b c d:Nat):List TO:=zKa a b++jH (a+2) c d
def zMr (a b c d e f:Nat):List TO:=zDv a b c++zDw d e a (a+1) (a+1) f
def YA (a b c:Nat):List TO:=bO a b c++l9 (a+2) (a+1)
def MO (a b c d e f:Nat):List TO:=au a b++yB (a+1) c d e f
def MP (a b c d e:Nat):List TO:=jq a++zAw b c d a e
def MQ (a b c:Nat):List TO:=au a b++au c a
def FY (a b c d:Nat):List TO:=iZ a b c d++bz (a+1)
def zMx (a b c d e:Nat):List TO:=jI a b c d++dC a e a
abbrev Zt0:=Int × (Int × List Int × List (Int × Int) × List (List Int) × List Int × Int × Int × Int × Int × Int × Int × Int × List (Int × Int) × Int × List (Int × Int × Int × Int × Int × Int))
abbrev Zt1:=Int × List Int × List (Int × Int) × List (List Int) × List Int × Int × Int × Int × Int × Int × Int × Int × List (Int × Int) × Int × List (Int × Int × Int × Int × Int × Int) × Bool
abbrev Zt2:=Int × List Int × List (Int × Int) × List (List Int) × List Int × Int × Int × Int × Int × Int × Int × Int × List (Int × Int) × Int × List (Int × Int × Int × Int × Int × Int) × Int
abbrev eH:=Int × List Int × List (Int × Int) × List (List Int) × List Int × Int × Int × Int × Int × Int × Int × Int × List (Int × Int) × Int × List (Int × Int × Int × Int × Int × Int)
abbrev Zt4:=Int × Int × List (Int × Int × Int × Bool) × Int × Bool × List (Int × Int) × List Int × Int × Bool × List (Int × Int) × List Int × Int
abbrev Zt5:=Int × Int × List (Int × Int × Int × Int × Int × Int × Int × Bool × List (Int × Int) × List Int × Int × Int × List (Int × Int) × Int)
abbrev YB:=Int × Int × Int × Int × Int × Int × Int × Bool × (List (Int × Int)) × (List Int) × Int × Int × (List (Int × Int)) × Int
abbrev Zt7:=Int × Int × Int × Int × Int × Int × Int × Bool × List (Int × Int) × List Int × Int × Int × List (Int × Int) × Int
abbrev Zt8:=Int × Int × List (Int × Int × Int × Bool) × Int × Bool × List (Int × Int) × List Int × Bool
abbrev Zt9:=Int × Int × (List (Int × Int × Int × Bool)) × Int × Bool × (List (Int × Int)) × (List Int)
abbrev jO:=Int × Int × List (Int × Int × Int × Bool) × Int × Bool × List (Int × Int) × List Int
abbrev apf:=Int × Int × Int × Int × Int × Int × Int × List (Int × Int) × Int
abbrev aBn:=Int × List (Int × Int × Int × Bool) × Int × Int × Bool × Bool
abbrev apg:=Int × List (Int × Int × Int × Bool) × Bool
abbrev oK:=Int × Bool × List (Int × Int) × List Int
abbrev eB:=Int × List (Int × Int × Int × Bool)
abbrev DT:=Int × Int × List (Int × Int) × Int
abbrev ve:=Int × Int × Int × Int × Int × Int
abbrev lS:=Int × Int × Int × Bool
abbrev Bu:=Int × List (Int × Int)
abbrev qG:=Int × Int × Int × Int
abbrev HV:=Int × List (List Int)
abbrev aP:=Int × Int
abbrev zK (E:aK) (K:FuncId) (s:aL) (c:TC) (h:Nat) (j:Ou) (l:List Nat):Prop:=ahC PG E K s (c.ht h) j=some (c.wc E,l)
end Go.Fw
namespace Go.Fw
noncomputable section
def asR:TC:=
 (zS [bz 2] (zS [w_ 3 0 3,Yn 5 4 1048576,au 2 5] .ret))
def asS:aL:=⟨[.rd false fF],(.one false [.d])⟩
def asT:aK:=aD []
def asU (n:Nat):List (Int)->Option ((Bool) × Unit):=aH n asT asR [[.sl [.i .u8]]] [.b] [] [2] .no
def ahQ:=asU BIG
def asV:TSp:=⟨asS,[[.sl [.i .u8]]],[.b],[],Ou.j .no,ahQ⟩
theorem aBo:zK asT 7 asS asR 6 .no [2]:=by show _=_;kernel_rfl
theorem aze:asV.Ok PG 7:=aO (ay PG) aBo (by kernel_rfl)
theorem aBp (n) (a0):asU n a0 = some (decide (1048576<(a0.length:Int)),()):=by kernel_rfl
def adE:TC:=
 (zS [[o1 2 (.nl)]] (zS [w_ 5 0 5,zAe 7 13501 6,au 3 7] (zQ (.join [⟨3,[.i .i64],false⟩] 268435224 none (zS [bK 4] (.block 0 (.loop [⟨3,[.i .i64],false⟩,⟨4,[.i .i64],false⟩] 268435224 (zQ (.seq (.join [⟨15,[.b],false⟩] 65280 none (zR [df 8 4 0,yA 10 9 8,BS 12 11 4 4,zAi 14 13 4000 4,oW 12 14 15])) (zC 15 .skip (.exit 0))) (zQ (.block 1 (zR [au 18 3,zAk 19 18 131,SS 20 0 4 1,[o1 24 (.data (.conv .i64) [.t 23])],zAo 25 19 24,[o1 26 (.data (.bin .add) [.t 25,kD 7])],zAp 27 26 1073741823,au 3 27])) (zR [gY 16 4 4]))))))) (zS [df 28 0 3,[o1 30 (.build gT [(0,.t 28),(2,.t 29)])],dK 31 30,[⟨true,[],[],.det 2 (.copy 31),[2,31],(some 2),none⟩]] .ret))))
def adF:aL:=⟨[.rd false fF],(.bx [.sl (.ro [0]) [.d],.d,.d])⟩
def adG:aK:=aD []
def Ol (n:Nat):List (Int)->Option ((List Int × Int × Int) × Unit):=aH n adG adE [[.sl [.i .u8]]] gT [] [2] .no
def vW:=Ol BIG
def FZ:TSp:=⟨adF,[[.sl [.i .u8]]],gT,[],Ou.j .no,vW⟩
theorem asW:zK adG 37 adF adE 32 .no [2]:=by show _=_;kernel_rfl
theorem KF:FZ.Ok PG 37:=aO (ay PG) asW (by kernel_rfl)
theorem asX (n) (a0):Ol n a0 = (aJ n (X:=Int × Int) (B:=Int) (fun self1 x0=> (bif decide (x0.2<(a0.length:Int)) then some (decide (x0.2<4000)) else some false).bind fun x2=> bif x2 then bnd a0.length x0.2 fun n3=> a0[n3]?.bind fun y4=> self1 (bits .and .i64 (IntKind.wrap .i64 ((IntKind.wrap .i64 ((IntKind.wrap .i64 (x0.1*(131:Int)))+(IntKind.wrap .i64 (y4))))+7)) (1073741823:Int),IntKind.wrap .i64 (x0.2+1)) else some x0.1) (IntKind.wrap .i64 ((13501:Int)+(a0.length:Int)),(0:Int))).bind fun x5=> some ((a0,(0:Int),x5),()):=by kernel_rfl
def YC:TC:=
 (zS [bK 2] (zS [dA 4,dA 5,rV 6 5,Jn 7 6,Ob 8 0 2 7,zAk 9 8 6364136223846793005,[o1 10 (.data (.bin .add) [.t 9,kD 1442695040888963407])],ny 11 4,zAw 0 0 2 12 10] (zS [dA 13,dA 18,Ta 14 13 0 2,zAx 17 16 33,Ta 19 18 0 2,zAx 22 21 45,[o1 23 (.data (.bin .xor) [.t 17,.t 22])],zAp 24 23 255,au 3 24] (zQ (.join [⟨3,[.i .i64],false⟩,⟨0,gT,false⟩] 144115188042301449 none (zS [dA 25,dA 29,Ta 26 25 0 1,Ta 30 29 0 0,yA 33 32 28] (zC 34 (zS [au 35 3,dA 36,dA 40,Ta 37 36 0 0,Ta 41 40 0 1,nz 44 39 43 1,[o1 46 (.data (.conv .i64) [.t 45])],zAo 47 35 46,zAp 48 47 255,au 3 48] (zR [dA 49,dA 50,Ta 51 50 0 1,BK 54 53,ny 55 49,zAw 0 0 1 56 54])) .skip))) (zS [MQ 57 3 2] .ret)))))
def YD:aL:=⟨[.mp [.sl (.ro []) [.d],.d,.d]],(.one false [.d])⟩
def YE:aK:=aD []
def KG (n:Nat):(List Int × Int × Int)->Option ((Int) × List Int × Int × Int):=aH n YE YC [gT] [.i .i64] gT [2] (.mp 0)
def lT:=KG BIG
def KH:TSp:=⟨YD,[gT],[.i .i64],gT,Ou.j (.mp 0),lT⟩
theorem aph:zK YE 111 YD YC 58 (.mp 0) [2]:=by show _=_;kernel_rfl
theorem Te:KH.Ok PG 111:=aO (ay PG) aph (by kernel_rfl)
theorem api (n) (a0):KG n a0 = bif decide (33<0) then none else bif decide (45<0) then none else (bif decide (a0.2.1<(a0.1.length:Int)) then bnd a0.1.length a0.2.1 fun n0=> a0.1[n0]?.bind fun y1=> some (bits .and .i64 (IntKind.wrap .i64 ((bits .and .i64 (bits .xor .i64 (Int.fdiv (IntKind.wrap .i64 ((IntKind.wrap .i64 (a0.2.2*(6364136223846793005:Int)))+1442695040888963407)) (2 ^ (Nat.min (Int.toNat (33:Int)) (IntKind.bits .i64)))) (Int.fdiv (IntKind.wrap .i64 ((IntKind.wrap .i64 (a0.2.2*(6364136223846793005:Int)))+1442695040888963407)) (2 ^ (Nat.min (Int.toNat (45:Int)) (IntKind.bits .i64))))) (255:Int))+(IntKind.wrap .i64 (y1)))) (255:Int),(a0.1,IntKind.wrap .i64 (a0.2.1+1),IntKind.wrap .i64 ((IntKind.wrap .i64 (a0.2.2*(6364136223846793005:Int)))+1442695040888963407))) else some (bits .and .i64 (bits .xor .i64 (Int.fdiv (IntKind.wrap .i64 ((IntKind.wrap .i64 (a0.2.2*(6364136223846793005:Int)))+1442695040888963407)) (2 ^ (Nat.min (Int.toNat (33:Int)) (IntKind.bits .i64)))) (Int.fdiv (IntKind.wrap .i64 ((IntKind.wrap .i64 (a0.2.2*(6364136223846793005:Int)))+1442695040888963407)) (2 ^ (Nat.min (Int.toNat (45:Int)) (IntKind.bits .i64))))) (255:Int),(a0.1,a0.2.1,IntKind.wrap .i64 ((IntKind.wrap .i64 (a0.2.2*(6364136223846793005:Int)))+1442695040888963407)))).bind fun x2=> some (x2.1,x2.2):=by kernel_rfl
def Tf:TC:=
 (zS [bK 4] (zQ (zS [au 9 1,zAy 10 9 0] (zC 10 (zS [bK 4] .ret) .skip)) (zQ (zS [au 11 1,zAy 12 11 256] (zC 12 (zS [dA 13,zAz 111 14 14,au 15 1,zAA 16 14 15,au 4 16] .ret) .skip)) (zS [dA 17,zAz 111 18 18,au 5 18] (zS [dA 19,zAz 111 20 20,au 6 20] (zS [dA 21,zAz 111 22 22,au 7 22] (zS [dA 23,zAz 111 24 24,au 8 24] (zS [au 25 5,zAk 26 25 16777216,au 27 6,zAk 28 27 65536,zAo 29 26 28,au 30 7,zAk 31 30 256,zAo 32 29 31,au 33 8,zAo 34 32 33,au 35 1,zAA 36 34 35,au 4 36] .ret))))))))
def Tg:aL:=⟨[.mp [.sl (.ro []) [.d],.d,.d],.rd false [.d]],(.one false [.d])⟩
def Ti:aK:=aD [(111,KH)]
def HY (n:Nat):(List Int × Int × Int) × Int->Option ((Int) × List Int × Int × Int):=aH n Ti Tf [gT,[.i .i64]] [.i .i64] gT [4] (.mp 0)
def fG:=HY BIG
def l_:TSp:=⟨Tg,[gT,[.i .i64]],[.i .i64],gT,Ou.j (.mp 0),fG⟩
theorem akL:zK Ti 112 Tg Tf 37 (.mp 0) [4]:=by show _=_;kernel_rfl
theorem mO:l_.Ok PG 112:=aO (ae Te (ay PG)) akL (by kernel_rfl)
theorem akM (n) (a0) (a1):HY n (a0,a1) = bif decide (a1<=0) then some ((0:Int),a0) else bif decide (a1<=256) then (lT a0).bind fun r0=> bif decide (a1=0) then none else some (Int.tmod r0.1 a1,r0.2) else (lT a0).bind fun r1=> (lT r1.2).bind fun r2=> (lT r2.2).bind fun r3=> (lT r3.2).bind fun r4=> bif decide (a1=0) then none else some (Int.tmod (IntKind.wrap .i64 ((IntKind.wrap .i64 ((IntKind.wrap .i64 ((IntKind.wrap .i64 (r1.1*(16777216:Int)))+(IntKind.wrap .i64 (r2.1*(65536:Int)))))+(IntKind.wrap .i64 (r3.1*(256:Int)))))+r4.1)) a1,r4.2):=by kernel_rfl
def am6:TC:=
 (zS [bK 2] (zS [dA 3,zAB 0 11 4 0 4,zAe 5 2 4,au 2 5] .ret))
def am7:aL:=⟨[.mp [.sl (.ro []) [.d],.d,.d]],(.one false [.d])⟩
def am8:aK:=aD [(112,l_)]
def ab8 (n:Nat):(List Int × Int × Int)->Option ((Int) × List Int × Int × Int):=aH n am8 am6 [gT] [.i .i64] gT [2] (.mp 0)
def R4:=ab8 BIG
def am9:TSp:=⟨am7,[gT],[.i .i64],gT,Ou.j (.mp 0),R4⟩
theorem azf:zK am8 116 am7 am6 6 (.mp 0) [2]:=by show _=_;kernel_rfl
theorem avV:am9.Ok PG 116:=aO (ae mO (ay PG)) azf (by kernel_rfl)
theorem azg (n) (a0):ab8 n a0 = (fG (a0,(11:Int))).bind fun r0=> some (IntKind.wrap .i64 ((2:Int)+r0.1),r0.2):=by kernel_rfl
def ahR:TC:=
 (zS [bz 6] (zQ (.join [⟨6,[.b],false⟩] 32704 none (zR [df 7 0 1,zAC 9 7 8,BS 10 9 0 3,iE 12 2 3,zAD,nA 10 13 14 6])) .ret))
def ahS:aL:=⟨[.rd false [.d],.rd false [.d],.rd false [.d]],(.one false [.d])⟩
def ahT:aK:=aD []
def Wp (n:Nat):Int × Int × Int->Option ((Bool) × Unit):=aH n ahT ahR [[.i .i64],[.i .i64],[.i .i64]] [.b] [] [6] .no
def bE:=Wp BIG
def fH:TSp:=⟨ahS,[[.i .i64],[.i .i64],[.i .i64]],[.b],[],Ou.j .no,bE⟩
theorem avW:zK ahT 42 ahS ahR 15 .no [6]:=by show _=_;kernel_rfl
theorem eU:fH.Ok PG 42:=aO (ay PG) avW (by kernel_rfl)
theorem avX (n) (a0) (a1) (a2):Wp n (a0,a1,a2) = (bif decide (a1<=a0) then some (decide (a0<=a2)) else some false).bind fun x0=> some (x0,()):=by kernel_rfl
def Om:TC:=
 (zS [yu 4] (zS [Tc 11 5] (zQ (.join [⟨5,[.sl [.i .i64]],false⟩] 2093152 none (zS [bK 6] (.block 0 (.loop [⟨5,[.sl [.i .i64]],false⟩,⟨6,[.i .i64],false⟩] 2093152 (zQ (zS [SY 12 6 0] (zC 14 .skip (.exit 0))) (zQ (.block 1 (zR [dC 5 17 5,au 18 6,Jo 19 18,MM 17 19 20 17 5])) (zR [gY 15 6 6]))))))) (zQ (.join [⟨5,[.sl [.i .i64]],false⟩] 1180591620717409208224 none (zS [bK 7] (.block 2 (.loop [⟨5,[.sl [.i .i64]],false⟩,⟨7,[.i .i64],false⟩] 1180591620717409208224 (zQ (zS [SY 21 7 0] (zC 23 .skip (.exit 2))) (zQ (.join [⟨5,[.sl [.i .i64]],false⟩] 1180591620717344196384 none (.block 3 (zS [bK 8] (.block 4 (.loop [⟨5,[.sl [.i .i64]],false⟩,⟨8,[.i .i64],false⟩] 1180591620717344196384 (zQ (zS [BR 26 8 1] (zC 29 .skip (.exit 4))) (zQ (.join [⟨5,[.sl [.i .i64]],false⟩] 1180591620713116337696 none (.block 5 (zS [gN 32 5,df 33 1 8,SQ 35 33 34 2,Js 38 32 37 5 1,au 9 39] (zS [gN 40 5,df 41 1 8,zMf 43 41 42 2 1,Js 46 40 45 5 1,au 10 47] (zQ (.join [⟨5,[.sl [.i .i64]],false⟩] 576180381133307936 none (zS [yD 48 9,gy 50 48 49] (zC 50 (zR [gN 51 5,df 52 1 8,zMf 54 52 53 2 1,au 57 9,wW 58 51 56,[o4 1 [5,32,40,51] (.store 5 [(0,1)] 0 (.t 58) (.t 57))]]) .skip))) (zS [SY 59 10 9] (zC 61 (zR [gN 62 5,df 63 1 8,SQ 65 63 64 2,au 68 10,wW 69 62 67,zBg 5 62 5 0 1 0 69 68]) .skip))))))) (zR [gY 30 8 8])))))))) (zR [gY 24 7 7]))))))) (zS [tO 5 70 5 4] .ret)))))
def Oo:aL:=⟨[.rd false [.d],.rd false iG],(.one false fF)⟩
def Oq:aK:=aD []
def DU (n:Nat):Int × (List aP)->Option ((List Int) × Unit):=aH n Oq Om [[.i .i64],[.sl [.i .i64,.i .i64]]] [.sl [.i .i64]] [] [4] .no
def xe:=DU BIG
def DV:TSp:=⟨Oo,[[.i .i64],[.sl [.i .i64,.i .i64]]],[.sl [.i .i64]],[],Ou.j .no,xe⟩
theorem ahU:zK Oq 142 Oo Om 71 .no [4]:=by show _=_;kernel_rfl
theorem MR:DV.Ok PG 142:=aO (ay PG) ahU (by kernel_rfl)
theorem ahV (n) (a0) (a1):DU n (a0,a1) = (aJ n (X:=(List Int) × Int) (B:=(List Int)) (fun self1 x0=> bif decide (x0.2<a0) then bif decide (x0.1.length+[x0.2].length<=4294967296) then self1 (x0.1++[x0.2],IntKind.wrap .i64 (x0.2+1)) else none else some x0.1) ([],(0:Int))).bind fun x2=> (aJ n (X:=(List Int) × Int) (B:=(List Int)) (fun self4 x3=> bif decide (x3.2<a0) then (aJ n (X:=(List Int) × Int) (B:=(List Int)) (fun self6 x5=> bif decide (x5.2<(a1.length:Int)) then (bnd a1.length x5.2 fun n7=> a1[n7]?.bind fun y8=> bnd x5.1.length y8.1 fun n9=> x5.1[n9]?.bind fun y10=> bnd a1.length x5.2 fun n11=> a1[n11]?.bind fun y12=> bnd x5.1.length y12.2 fun n13=> x5.1[n13]?.bind fun y14=> (bif decide (y10<y14) then bnd a1.length x5.2 fun n15=> a1[n15]?.bind fun y16=> bnd x5.1.length y16.2 fun n17=> x5.1[n17]?.bind fun y18=> some (x5.1.set n17 y10) else some x5.1).bind fun x19=> bif decide (y14<y10) then bnd a1.length x5.2 fun n20=> a1[n20]?.bind fun y21=> bnd x19.length y21.1 fun n22=> x19[n22]?.bind fun y23=> some (x19.set n22 y14) else some x19:Option ((List Int))).bind fun x24=> self6 (x24,IntKind.wrap .i64 (x5.2+1)) else some x5.1) (x3.1,(0:Int))).bind fun x25=> self4 (x25,IntKind.wrap .i64 (x3.2+1)) else some x3.1) (x2,(0:Int))).bind fun x26=> some (x26,()):=by kernel_rfl
def YF:TC:=
 (zS [p_ 4 1000000005,bz 5] (zQ (.seq (.join [⟨16,[.b],false⟩] 130560 none (zR [au 9 0,oZ 10 42 9 12,Jw 11 10 1 3,zBm 42 13 3 14 14 3,tN 15 14 3 12])) (zC 16 (zS [zBp 17,FY 4 17 4 17] .ret) .skip)) (zS [df 18 0 1,[o1 20 (.make (.t 19) [.i .i64]),o5 (.build bC [(0,.t 18),(4,.t 20)]) 21 20],p_ 6 1000000007,iZ 6 21 6 21] (zQ (.join [⟨6,bC,false⟩] 68715282624 none (zS [bK 7] (.block 0 (.loop [⟨6,bC,false⟩,⟨7,[.i .i64],false⟩] 68715282624 (zQ (zS [SY 22 7 0] (zC 24 .skip (.exit 0))) (zQ (.block 1 (zR [df 29 7 1,uq 27 6 1,zAA 31 29 30,zAe 32 1 31,Jo 33 32,Yv 28 28 33 34 28 28 6 34 6 6 1])) (zR [gY 25 7 7]))))))) (zQ (.join [⟨6,bC,false⟩] 562881233944896 none (zS [bK 8] (.block 2 (.loop [⟨6,bC,false⟩,⟨8,[.i .i64],false⟩] 562881233944896 (zQ (zS [SY 36 8 1] (zC 38 .skip (.exit 2))) (zQ (.block 3 (zR [au 43 0,uq 41 6 3,Yp 44,jI 45 142 43 44,zBx 45 46 45,zBy 42 42 46 47 42 46 42 6 47,zMc 48 6 47 42 6 3 47])) (zR [gY 39 8 8]))))))) (zS [w9 49 6 15 4 4 6,gX 5] .ret))))))
def YG:aL:=⟨[.rd false [.d],.rd false [.d]],(.tup [(true,15),(false,1)] Ct0)⟩
def YH:aK:=aD [(42,fH),(142,DV)]
def Cs (n:Nat):Int × Int->Option (Zt1 × Unit):=aH n YH YF [[.i .i64],[.i .i64]] Ty1 [] [4,5] .no
def tq:=Cs BIG
def KI:TSp:=⟨YG,[[.i .i64],[.i .i64]],Ty1,[],Ou.j .no,tq⟩
theorem apj:zK YH 110 YG YF 50 .no [4,5]:=by show _=_;kernel_rfl
theorem Tj:KI.Ok PG 110:=aO (ae eU (ae MR (ay PG))) apj (by kernel_rfl)
theorem YI (n) (a0) (a1):Cs n (a0,a1) = ((bE (a0,(1:Int),(12:Int))).bind fun r0=> bif !r0.1 then some true else (bE (a1,(1:Int),(3:Int))).bind fun r1=> some !r1.1).bind fun x2=> bif x2 then some (((0:Int),[],[],[],[],(0:Int),(0:Int),(0:Int),(0:Int),(0:Int),(0:Int),(0:Int),[],(0:Int),[],false),()) else bif decide (0<=a1) then bif decide ((Int.toNat a1)<=4294967296) then (aJ n (X:=eH × Int) (B:=eH) (fun self4 x3=> bif decide (x3.2<a0) then bif decide (a1=0) then none else bif decide (x3.1.2.1.length+([IntKind.wrap .i64 ((1:Int)+(Int.tmod x3.2 a1))]).length<=4294967296) then self4 ((x3.1.1,x3.1.2.1++([IntKind.wrap .i64 ((1:Int)+(Int.tmod x3.2 a1))]),x3.1.2.2),IntKind.wrap .i64 (x3.2+1)) else none else some x3.1) ((a0,[],[],[],List.replicate (Int.toNat a1) (0:Int),(0:Int),(0:Int),(0:Int),(0:Int),(0:Int),(0:Int),(0:Int),[],(0:Int),[]),(0:Int))).bind fun x5=> (aJ n (X:=eH × Int) (B:=eH) (fun self7 x6=> bif decide (x6.2<a1) then (xe (a0,[])).bind fun r8=> bif decide (x6.1.2.2.2.1.length+[r8.1].length<=4294967296) then self7 ((x6.1.1,x6.1.2.1,x6.1.2.2.1,x6.1.2.2.2.1++[r8.1],x6.1.2.2.2.2),IntKind.wrap .i64 (x6.2+1)) else none else some x6.1) (x5,(0:Int))).bind fun x9=> some ((x9.1,x9.2.1,x9.2.2.1,x9.2.2.2.1,x9.2.2.2.2.1,x9.2.2.2.2.2.1,x9.2.2.2.2.2.2.1,x9.2.2.2.2.2.2.2.1,x9.2.2.2.2.2.2.2.2.1,x9.2.2.2.2.2.2.2.2.2.1,x9.2.2.2.2.2.2.2.2.2.2.1,x9.2.2.2.2.2.2.2.2.2.2.2.1,x9.2.2.2.2.2.2.2.2.2.2.2.2.1,x9.2.2.2.2.2.2.2.2.2.2.2.2.2.1,x9.2.2.2.2.2.2.2.2.2.2.2.2.2.2,true),()) else none else none:=by kernel_rfl
def adH:TC:=
 (zS [DI 2 1000000003,bz 3] (zQ (zS [au 4 0,oZ 5 42 4 12,jN 6 5] (zC 6 (zS [zBD 7,FY 2 7 2 7] .ret) .skip)) (zS [au 8 0,zBE 9 8,iZ 2 9 2 9,gX 3] .ret)))
def adI:aL:=⟨[.rd false [.d]],(.tup [(true,2),(false,1)] Ct7)⟩
def adJ:aK:=aD [(42,fH)]
def Ot (n:Nat):Int->Option (apg × Unit):=aH n adJ adH [[.i .i64]] N8 [] [2,3] .no
def Ov:=Ot BIG
def adK:TSp:=⟨adI,[[.i .i64]],N8,[],Ou.j .no,Ov⟩
theorem asY:zK adJ 179 adI adH 10 .no [2,3]:=by show _=_;kernel_rfl
theorem apk:adK.Ok PG 179:=aO (ae eU (ay PG)) asY (by kernel_rfl)
theorem asZ (n) (a0):Ot n a0 = (bE (a0,(1:Int),(12:Int))).bind fun r0=> bif !r0.1 then some (((0:Int),[],false),()) else some ((a0,[],true),()):=by kernel_rfl
def Tk:TC:=
 (zS [DJ 4 1000000005,bz 5] (zS [au 9 1,Yy 10 179 9 8,zDc 8 2 11 8,uo 12 8 2,DI 6 1000000007,rY 6 11 6 11] (zQ (.seq (.join [⟨19,[.b],false⟩] 1040384 none (zR [au 13 7,Jw 14 13 0 2,zBm 42 16 3 17 17 2,tN 18 17 2 15])) (zC 19 (zS [zDe 20,FY 4 20 4 20] .ret) .skip)) (zS [au 21 0,jf 22 6 2,zDf,iZ 4 23 4 23,gX 5] .ret))))
def Tm:aL:=⟨[.rd false [.d],.rd false [.d]],(.tup [(true,7),(false,1)] Ct3)⟩
def Tn:aK:=aD [(179,adK),(42,fH)]
def HZ (n:Nat):Int × Int->Option (Zt8 × Unit):=aH n Tn Tk [[.i .i64],[.i .i64]] Ty8 [] [4,5] .no
def z8:=HZ BIG
def H5:TSp:=⟨Tm,[[.i .i64],[.i .i64]],Ty8,[],Ou.j .no,z8⟩
theorem akN:zK Tn 114 Tm Tk 24 .no [4,5]:=by show _=_;kernel_rfl
theorem Ow:H5.Ok PG 114:=aO (ae apk (ae eU (ay PG))) akN (by kernel_rfl)
theorem akO (n) (a0) (a1):HZ n (a0,a1) = (Ov a1).bind fun r0=> (bif !r0.1.2.2 then some true else (bE (a0,(1:Int),(3:Int))).bind fun r1=> some !r1.1).bind fun x2=> bif x2 then some (((0:Int),(0:Int),[],(0:Int),false,[],[],false),()) else some ((a0,r0.1.1,r0.1.2.1,(0:Int),false,[],[],true),()):=by kernel_rfl
def YJ:TC:=
 (zS [bK 2] (zS [w_ 4 0 4,zDg 6 5 4,zAe 7 12 6,au 3 7] (zQ (zS [au 8 3,Yn 9 8 60] (zC 9 (zS [nU 2 60] .ret) .skip)) (zS [MQ 10 3 2] .ret))))
def YK:aL:=⟨[.rd false fF],(.one false [.d])⟩
def YL:aK:=aD []
def KJ (n:Nat):List (Int)->Option ((Int) × Unit):=aH n YL YJ [[.sl [.i .u8]]] [.i .i64] [] [2] .no
def KL:=KJ BIG
def YM:TSp:=⟨YK,[[.sl [.i .u8]]],[.i .i64],[],Ou.j .no,KL⟩
theorem apl:zK YL 117 YK YJ 11 .no [2]:=by show _=_;kernel_rfl
theorem akP:YM.Ok PG 117:=aO (ay PG) apl (by kernel_rfl)
theorem apm (n) (a0):KJ n a0 = bif decide (4=0) then none else bif decide (60<(IntKind.wrap .i64 ((12:Int)+(IntKind.wrap .i64 (Int.tdiv (a0.length:Int) (4:Int)))))) then some ((60:Int),()) else some (IntKind.wrap .i64 ((12:Int)+(IntKind.wrap .i64 (Int.tdiv (a0.length:Int) (4:Int)))),()):=by kernel_rfl
def am_:TC:=
 (zS [kP 1 0] (zS [jq 3,Jn 4 3,Ob 5 1 9 4,zDi 6 5 0,au 2 6] .ret))
def ana:aL:=⟨[.rd true oV],(.one false [.d])⟩
def anb:aK:=aD []
def anc (n:Nat):eH->Option ((Bool) × Unit):=aH n anb am_ [bC] [.b] [] [2] .no
def Da:=anc BIG
def R5:TSp:=⟨ana,[bC],[.b],[],Ou.j .no,Da⟩
theorem azh:zK anb 39 ana am_ 7 .no [2]:=by show _=_;kernel_rfl
theorem Wq:R5.Ok PG 39:=aO (ay PG) azh (by kernel_rfl)
theorem azi (n) (a0):anc n a0 = some (!decide (a0.2.2.2.2.2.2.2.2.2.1=0),()):=by kernel_rfl
def MS:TC:=
 (zS [bK 4] (zS [au 5 1,dA 6,w_ 7 1 7,SG 112 8 9 9,Js 10 5 9 5 1,au 4 11] .ret))
def MU:aL:=⟨[.mp [.sl (.ro []) [.d],.d,.d],.rd false fF],(.one false [.d])⟩
def MV:aK:=aD [(112,l_)]
def Bv (n:Nat):(List Int × Int × Int) × List (Int)->Option ((Int) × List Int × Int × Int):=aH n MV MS [gT,[.sl [.i .i64]]] [.i .i64] gT [4] (.mp 0)
def lq:=Bv BIG
def MW:TSp:=⟨MU,[gT,[.sl [.i .i64]]],[.i .i64],gT,Ou.j (.mp 0),lq⟩
theorem afE:zK MV 125 MU MS 12 (.mp 0) [4]:=by show _=_;kernel_rfl
theorem ab9:MW.Ok PG 125:=aO (ae mO (ay PG)) afE (by kernel_rfl)
theorem afF (n) (a0) (a1):Bv n (a0,a1) = (fG (a0,(a1.length:Int))).bind fun r0=> bnd a1.length r0.1 fun n1=> a1[n1]?.bind fun y2=> some (y2,r0.2):=by kernel_rfl
def adL:TC:=
 (zS [zDk 8 1000000009] (zS [au 10 3,dA 11,[⟨false,[],[],.det 10 (.sli [.i .i64] [kO 1,kO 1,kO 1,kO 1,kO 2,kO 2,kO 3,kO 3,kO 4]),[12,1000000001,1000000002,1000000003,1000000004,1000000005,1000000006,1000000007,1000000008,1000000009],(some 12),none⟩],SG 125 12 13 13,dA 14,au 15 1,SG 112 15 16 16,dA 17,au 18 1,SG 112 18 19 19,[o1 20 (.build fO [(0,.t 10),(1,.t 13),(2,.t 16),(3,.t 19)])],zDk 9 1000000010,dR 9 9 20] (zQ (.join [⟨0,gT,false⟩,⟨9,fO,false⟩] 534774273 none (zS [bO 21 9 1,wX 23 22 4] (zC 23 (zR [dA 24,au 25 2,SG 112 25 26 26,zAe 27 1 26,MP 28 9 9 3 27]) .skip))) (zQ (.join [⟨0,gT,false⟩,⟨9,fO,false⟩] 2251799276814849 none (zS [dA 29,zAB 0 30 30 0 30] (.block 0 (zS [Td 32 30 0] (zC 31 (zR [dA 33,au 34 1,[⟨false,[],[],.det 4 (.sli [.i .i64] [kO (-1),.t 34,kO 11,kO 12]),[35,1000000001,1000000003,1000000004],(some 35),none⟩],SG 125 35 36 36,MP 37 9 9 2 36]) (zS [yF 39 30 1 38] (zC 38 (zR [dA 40,au 41 1,[⟨false,[],[],.det 4 (.sli [.i .i64] [kO (-1),kO 0,.t 41,kO 12]),[42,1000000001,1000000002,1000000004],(some 42),none⟩],SG 125 42 43 43,MP 44 9 9 3 43]) (zS [yF 46 30 2 45] (zC 45 (zR [dA 47,[⟨false,[],[],.det 3 (.sli [.i .i64] [kO 0,kO 5]),[48,1000000001,1000000002],(some 48),none⟩],SG 125 48 49 49,MP 50 9 9 1 49]) .skip))))))))) (zS [dM 51 9 4,dR 8 8 51] .ret)))))
def adM:aL:=⟨[.mp [.sl (.ro []) [.d],.d,.d],.rd false [.d],.rd false [.d],.rd false [.d]],(.one true [.d,.d,.d,.d])⟩
def adN:aK:=aD [(125,MW),(112,l_)]
def Ox (n:Nat):(List Int × Int × Int) × Int × Int × Int->Option (qG × List Int × Int × Int):=aH n adN adL [gT,[.i .i64],[.i .i64],[.i .i64]] fO gT [8] (.mp 0)
def Oy:=Ox BIG
def adO:TSp:=⟨adM,[gT,[.i .i64],[.i .i64],[.i .i64]],fO,gT,Ou.j (.mp 0),Oy⟩
theorem as1:zK adN 41 adM adL 52 (.mp 0) [8]:=by show _=_;kernel_rfl
theorem apn:adO.Ok PG 41:=aO (ae ab9 (ae mO (ay PG))) as1 (by kernel_rfl)
theorem as3 (n) (a0) (a1) (a2) (a3):Ox n (a0,a1,a2,a3) = (lq (a0,[(1:Int),(1:Int),(1:Int),(1:Int),(2:Int),(2:Int),(3:Int),(3:Int),(4:Int)])).bind fun r0=> (fG (r0.2,a1)).bind fun r1=> (fG (r1.2,a1)).bind fun r2=> (bif decide (r0.1=4) then (fG (r2.2,a2)).bind fun r3=> some (r3.2,(a3,r0.1,r1.1,IntKind.wrap .i64 ((1:Int)+r3.1))) else some (r2.2,(a3,r0.1,r1.1,r2.1))).bind fun x4=> ((fG (x4.1,(30:Int))).bind fun r5=> bif decide (r5.1=0) then (lq (r5.2,[(-1:Int),a1,(11:Int),(12:Int)])).bind fun r6=> some (r6.2,(x4.2.1,x4.2.2.1,r6.1,x4.2.2.2.2)) else bif decide (r5.1=1) then (lq (r5.2,[(-1:Int),(0:Int),a1,(12:Int)])).bind fun r7=> some (r7.2,(x4.2.1,x4.2.2.1,x4.2.2.2.1,r7.1)) else bif decide (r5.1=2) then (lq (r5.2,[(0:Int),(5:Int)])).bind fun r8=> some (r8.2,(x4.2.1,r8.1,x4.2.2.2)) else some (r5.2,x4.2)).bind fun x9=> some (x9.2,x9.1):=by kernel_rfl
def F3:TC:=
 (zS [dK 1 0,zDp 2 1000000003] (zS [Yp 3,iP 4 1 2 4,yw 3 5 6 3,jq 7,FO 6 2 7 6] (zS [jf 8 1 4,FN 8 2 8 2 8 8 1] .ret)))
def F4:aL:=⟨[.rd true N_],(.one true N_)⟩
def F5:aK:=aD []
def xf (n:Nat):DT->Option (DT × Unit):=aH n F5 F3 [kw] kw [] [2] .no
def xg:=xf BIG
def F6:TSp:=⟨F4,[kw],kw,[],Ou.j .no,xg⟩
theorem YN:zK F5 138 F4 F3 9 .no [2]:=by show _=_;kernel_rfl
theorem Ws:F6.Ok PG 138:=aO (ay PG) YN (by kernel_rfl)
theorem YO (n) (a0):xf n a0 = bif decide (0+a0.2.2.1.length<=4294967296) then some ((a0.1,a0.2.1,[]++a0.2.2.1,a0.2.2.2),()) else none:=by kernel_rfl
def YP:TC:=
 (zS [dK 1 0,p_ 2 1000000003] (zS [zBa 5,iP 6 1 1 6,yw 5 7 8 5,jq 9,FO 8 1 9 8] (zS [Yp 10,bO 11 1 2,yw 10 12 13 10,jq 14,FO 13 2 14 13] (zS [zBa 15,bO 16 1 4,yw 15 17 18 15,jq 19,FO 18 4 19 18] (zS [[o1 20 (.sli apb [])],bO 21 1 14,yw 20 22 23 20,jq 24,FO 23 14 24 23] (zS [[o1 25 (.sli [.sl [.i .i64]] [])],dC 25 3 25] (zQ (.join [⟨3,[.sl [.sl [.i .i64]]],false⟩] 8796025913368 none (zS [bK 4] (.block 0 (.loop [⟨3,[.sl [.sl [.i .i64]]],false⟩,⟨4,[.i .i64],false⟩] 8796025913368 (zQ (zS [Oh 26 4 1 3 29] (zC 30 .skip (.exit 0))) (zQ (.block 1 (zR [dC 3 33 3,zBa 34,FW 35 1 3 4,nz 38 36 37 1,yw 34 39 40 34,zBx 40 41 40,zDr 33 41 42 33 41 42,dC 42 3 42])) (zR [gY 31 4 4]))))))) (zS [dC 3 43 3,jq 44,FO 43 3 44 43] (zS [zLn 45,Jp 47 1 10 46 4,gz 48 138 47,zLn 49,FO 48 10 50 48] (zS [w9 51 1 15 2 2 1] .ret))))))))))
def YQ:aL:=⟨[.rd true oV],(.one true oV)⟩
def YR:aK:=aD [(138,F6)]
def KM (n:Nat):eH->Option (eH × Unit):=aH n YR YP [bC] bC [] [2] .no
def nV:=KM BIG
def Ct:TSp:=⟨YQ,[bC],bC,[],Ou.j .no,nV⟩
theorem apo:zK YR 51 YQ YP 52 .no [2]:=by show _=_;kernel_rfl
theorem H6:Ct.Ok PG 51:=aO (ae Ws (ay PG)) apo (by kernel_rfl)
theorem apq (n) (a0):KM n a0 = bif decide (0+a0.2.1.length<=4294967296) then bif decide (0+a0.2.2.1.length<=4294967296) then bif decide (0+a0.2.2.2.2.1.length<=4294967296) then bif decide (0+a0.2.2.2.2.2.2.2.2.2.2.2.2.2.2.length<=4294967296) then (aJ n (X:=(List (List Int)) × Int) (B:=(List (List Int))) (fun self1 x0=> bif decide (x0.2<(a0.2.2.2.1.length:Int)) then bnd a0.2.2.2.1.length x0.2 fun n2=> a0.2.2.2.1[n2]?.bind fun y3=> bif decide (0+y3.length<=4294967296) then bif decide (x0.1.length+([[]++y3]).length<=4294967296) then self1 (x0.1++([[]++y3]),IntKind.wrap .i64 (x0.2+1)) else none else none else some x0.1) ([],(0:Int))).bind fun x4=> (xg (a0.2.2.2.2.2.2.2.2.2.2.1,a0.2.2.2.2.2.2.2.2.2.2.2.1,a0.2.2.2.2.2.2.2.2.2.2.2.2.1,a0.2.2.2.2.2.2.2.2.2.2.2.2.2.1)).bind fun r5=> some ((a0.1,[]++a0.2.1,[]++a0.2.2.1,x4,[]++a0.2.2.2.2.1,a0.2.2.2.2.2.1,a0.2.2.2.2.2.2.1,a0.2.2.2.2.2.2.2.1,a0.2.2.2.2.2.2.2.2.1,a0.2.2.2.2.2.2.2.2.2.1,r5.1.1,r5.1.2.1,r5.1.2.2.1,r5.1.2.2.2,[]++a0.2.2.2.2.2.2.2.2.2.2.2.2.2.2),()) else none else none else none else none:=by kernel_rfl
def adP:TC:=
 (zS [kP 3 1] (zQ (.join [⟨4,[.b],false⟩] 268435440 none (zR [au 5 0,oZ 6 42 5 12,au 7 6,qV 8 2,BL 9 3 0 8 2,iE 10 0 2,zMr 11 10 2 42 9 2,lC 7 12 13,vV 15 9 3 1 9,iE 17 0 9,zMr 18 17 9 42 16 9,lC 14 19 20,Oi 22 16 3 0 3 1,zDx 26 23 25 16,nA 21 26 27 4])) .ret))
def adQ:aL:=⟨[.rd false [.d],.rd true [.d,.d]],(.one false [.d])⟩
def adR:aK:=aD [(42,fH)]
def Oz (n:Nat):Int × aP->Option ((Bool) × Unit):=aH n adR adP [[.i .i64],[.i .i64,.i .i64]] [.b] [] [4] .no
def vX:=Oz BIG
def A7:TSp:=⟨adQ,[[.i .i64],[.i .i64,.i .i64]],[.b],[],Ou.j .no,vX⟩
theorem as4:zK adR 128 adQ adP 28 .no [4]:=by show _=_;kernel_rfl
theorem Cu:A7.Ok PG 128:=aO (ae eU (ay PG)) as4 (by kernel_rfl)
theorem as5 (n) (a0) (a1):Oz n (a0,a1) = ((bE (a0,(1:Int),(12:Int))).bind fun r0=> bif r0.1 then (bE (a1.1,(0:Int),IntKind.wrap .i64 (a0-1))).bind fun r1=> bif r1.1 then (bE (a1.2,(0:Int),IntKind.wrap .i64 (a0-1))).bind fun r2=> bif r2.1 then some (decide (a1.1<a1.2)) else some false else some false else some false).bind fun x3=> some (x3,()):=by kernel_rfl
def YS:TC:=
 (zS [dK 2 0,kP 3 1] (zQ (.join [⟨4,[.b],false⟩] 16777200 none (zR [iP 5 2 0 5,iP 7 3 0 7,gy 9 6 8,MO 10 9 5 2 0 5,yB 13 5 3 0 5,zDA 15 12 14 5,jH 16 15 5,Oi 17 11 2 1 3 1,zDx 21 18 20 11,FP 16 21 22 22 5 10,au 4 23])) .ret))
def YT:aL:=⟨[.rd true [.d,.d],.rd true [.d,.d]],(.one false [.d])⟩
def YU:aK:=aD []
def KN (n:Nat):aP × aP->Option ((Bool) × Unit):=aH n YU YS [[.i .i64,.i .i64],[.i .i64,.i .i64]] [.b] [] [4] .no
def xh:=KN BIG
def KO:TSp:=⟨YT,[[.i .i64,.i .i64],[.i .i64,.i .i64]],[.b],[],Ou.j .no,xh⟩
theorem apr:zK YU 187 YT YS 24 .no [4]:=by show _=_;kernel_rfl
theorem Tp:KO.Ok PG 187:=aO (ay PG) apr (by kernel_rfl)
theorem aps (n) (a0) (a1):KN n (a0,a1) = (bif decide (a0.1<a1.1) then some true else bif decide (a0.1=a1.1) then some (decide (a0.2<a1.2)) else some false).bind fun x0=> some (x0,()):=by kernel_rfl
def Tq:TC:=
 (zS [bz 4] (zQ (.join [] 68719476720 (some [⟨4,[.b],false⟩]) (zS [bK 5] (.block 0 (.loop [⟨5,[.i .i64],false⟩] 68719476720 (zQ (zS [df 6 5 1,l9 8 7,gy 9 6 8] (zC 9 .skip (.exit 0))) (zQ (.join [] 68719472656 (some [⟨4,[.b],false⟩]) (.block 1 (zQ (.join [⟨35,[.b],false⟩] 68719472640 none (zR [df 12 0 1,au 14 5,kN 15 13 14 2 2,jI 17 128 12 16,Jw 18 17 5 7,zDD 21 20 0 7,jH 22 21 7,iE 23 1 10,iE 24 5 10,zDv 25 24 10,qW 26 23 25 10,zEa 27 23 2 26 2 10,iE 28 1 10,iE 29 5 10,qW 30 28 29 10,zEa 31 28 2 30 2 10,qa 187 27 31 32 32 10,zEc 33 32 10,FP 22 33 34 34 7 19])) (zC 35 (zS [bz 4] .ret) .skip)))) (zR [gY 10 5 5]))))))) (zS [au 36 1,l9 37 36,zAy 38 37 66,au 4 38] .ret)))
def Tt:aL:=⟨[.rd false [.d],.rd false iG],(.one false [.d])⟩
def Tu:aK:=aD [(128,A7),(187,KO)]
def H7 (n:Nat):Int × (List aP)->Option ((Bool) × Unit):=aH n Tu Tq [[.i .i64],[.sl [.i .i64,.i .i64]]] [.b] [] [4] .no
def qx:=H7 BIG
def uu:TSp:=⟨Tt,[[.i .i64],[.sl [.i .i64,.i .i64]]],[.b],[],Ou.j .no,qx⟩
theorem akQ:zK Tu 139 Tt Tq 39 .no [4]:=by show _=_;kernel_rfl
theorem xm:uu.Ok PG 139:=aO (ae Cu (ae Tp (ay PG))) akQ (by kernel_rfl)
theorem akR (n) (a0) (a1):H7 n (a0,a1) =
 (aJ n (X:=Int) (B:=(Unit) ⊕ (Bool)) (fun self1 x0=>
  bif decide (x0<(a1.length:Int)) then
   ((bnd a1.length x0 fun n2=>
    a1[n2]?.bind fun y3=>
    (vX (a0,y3)).bind fun r4=>
    bif !r4.1 then
     some true
    else bif decide (0<x0) then
     bnd a1.length (IntKind.wrap .i64 (x0-1)) fun n5=>
     a1[n5]?.bind fun y6=>
     bnd a1.length x0 fun n7=>
     a1[n7]?.bind fun y8=>
     (xh (y6,y8)).bind fun r9=>
     some !r9.1
    else some false).bind fun x10=>
    bif x10 then
     some (Sum.inr false)
    else some (Sum.inl ())).bind fun y=>match y with
   | .inl x11=>
    self1 (IntKind.wrap .i64 (x0+1))
   | .inr x11=>
    some (Sum.inr x11)
  else some (Sum.inl ())) (0:Int)).bind fun y=>match y with
 | .inl x12=>
  some (decide ((a1.length:Int)<=66),())
 | .inr x12=>
  some (x12,()):=by kernel_rfl
def OA:TC:=
 (zS [bz 4] (zQ (zS [w_ 6 1 6,au 8 0,wY 9 7 8] (zC 9 (zS [bz 4] .ret) .skip)) (zQ (.join [] 68719475760 (some [⟨4,[.b],false⟩]) (zS [bK 5] (.block 0 (.loop [⟨5,[.i .i64],false⟩] 68719475760 (zQ (zS [SY 10 5 0] (zC 12 .skip (.exit 0))) (zQ (.join [] 68719443984 (some [⟨4,[.b],false⟩]) (.block 1 (zQ (.join [⟨35,[.b],false⟩] 68719443968 none (zR [df 15 1 5,au 19 5,nz 17 15 16 1,Yq 20 42 18 19,Jw 21 20 1 7,jH 24 1 7,Yw 25 5 7 24 7,Yr 27 24 1 26 7,zEf 28 23 27 7,Yr 29 23 1 28 7,jH 30 1 7,Yw 31 5 7 30 7,Yr 33 30 1 32 7,Jt 34 29 33 7 22])) (zC 35 (zS [bz 4] .ret) .skip)))) (zR [gY 13 5 5]))))))) (zS [gX 4] .ret))))
def OC:aL:=⟨[.rd false [.d],.rd false fF],(.one false [.d])⟩
def OD:aK:=aD [(42,fH)]
def DW (n:Nat):Int × List (Int)->Option ((Bool) × Unit):=aH n OD OA [[.i .i64],[.sl [.i .i64]]] [.b] [] [4] .no
def xn:=DW BIG
def DY:TSp:=⟨OC,[[.i .i64],[.sl [.i .i64]]],[.b],[],Ou.j .no,xn⟩
theorem ahW:zK OD 140 OC OA 36 .no [4]:=by show _=_;kernel_rfl
theorem MX:DY.Ok PG 140:=aO (ae eU (ay PG)) ahW (by kernel_rfl)
theorem ahX (n) (a0) (a1):DW n (a0,a1) =
 bif !decide ((a1.length:Int)=a0) then
  some (false,())
 else (aJ n (X:=Int) (B:=(Unit) ⊕ (Bool)) (fun self1 x0=>
  bif decide (x0<a0) then
   ((bnd a1.length x0 fun n2=>
    a1[n2]?.bind fun y3=>
    (bE (y3,(0:Int),x0)).bind fun r4=>
    bif !r4.1 then
     some true
    else bnd a1.length x0 fun n5=>
    a1[n5]?.bind fun y6=>
    bnd a1.length y6 fun n7=>
    a1[n7]?.bind fun y8=>
    bnd a1.length x0 fun n9=>
    a1[n9]?.bind fun y10=>
    some (!decide (y8=y10))).bind fun x11=>
    bif x11 then
     some (Sum.inr false)
    else some (Sum.inl ())).bind fun y=>match y with
   | .inl x12=>
    self1 (IntKind.wrap .i64 (x0+1))
   | .inr x12=>
    some (Sum.inr x12)
  else some (Sum.inl ())) (0:Int)).bind fun y=>match y with
 | .inl x13=>
  some (true,())
 | .inr x13=>
  some (x13,()):=by kernel_rfl
def YV:TC:=
 (zS [dK 2 0,bK 4] (zQ (.join [] 4194288 (some [⟨4,[.i .i64],false⟩]) (zS [bK 5] (.block 0 (.loop [⟨5,[.i .i64],false⟩] 4194288 (zQ (zS [au 6 5,iP 7 2 14 7,l9 9 8,gy 10 6 9] (zC 10 .skip (.exit 0))) (zQ (.block 1 (zS [jq 13,Ob 14 2 14 13,au 15 5,SQ 16 14 15 6,au 19 1,o8 20 18 19] (zC 20 (zS [MQ 21 5 4] .ret) .skip))) (zR [gY 11 5 5]))))))) (zS [zEj 4] .ret)))
def YW:aL:=⟨[.rd true oV,.rd false [.d]],(.one false [.d])⟩
def YX:aK:=aD []
def KP (n:Nat):eH × Int->Option ((Int) × Unit):=aH n YX YV [bC,[.i .i64]] [.i .i64] [] [4] .no
def xq:=KP BIG
def Cv:TSp:=⟨YW,[bC,[.i .i64]],[.i .i64],[],Ou.j .no,xq⟩
theorem apt:zK YX 53 YW YV 22 .no [4]:=by show _=_;kernel_rfl
theorem H8:Cv.Ok PG 53:=aO (ay PG) apt (by kernel_rfl)
theorem apu (n) (a0) (a1):KP n (a0,a1) = (aJ n (X:=Int) (B:=(Unit) ⊕ (Int)) (fun self1 x0=> bif decide (x0<(a0.2.2.2.2.2.2.2.2.2.2.2.2.2.2.length:Int)) then bnd a0.2.2.2.2.2.2.2.2.2.2.2.2.2.2.length x0 fun n2=> a0.2.2.2.2.2.2.2.2.2.2.2.2.2.2[n2]?.bind fun y3=> bif decide (y3.1=a1) then some (Sum.inr x0) else self1 (IntKind.wrap .i64 (x0+1)) else some (Sum.inl ())) (0:Int)).bind fun y=>match y with | .inl x4=> some ((-1:Int),()) | .inr x4=> some (x4,()):=by kernel_rfl
def F7:TC:=
 (zS [bz 4] (zQ (zS [w_ 6 0 6,w_ 8 1 8,wY 10 7 9] (zC 10 (zS [bz 4] .ret) .skip)) (zQ (.join [] 67106864 (some [⟨4,[.b],false⟩]) (zS [bK 5] (.block 0 (.loop [⟨5,[.i .i64],false⟩] 67106864 (zQ (zS [BR 11 5 0] (zC 14 .skip (.exit 0))) (zQ (.block 1 (zS [df 17 0 5,df 21 1 5,kN 19 17 18 2 2,kN 23 21 22 2 2,zEk 25 20 24] (zC 25 (zS [bz 4] .ret) .skip))) (zR [gY 15 5 5]))))))) (zS [gX 4] .ret))))
def F8:aL:=⟨[.rd false iG,.rd false iG],(.one false [.d])⟩
def F9:aK:=aD []
def xu (n:Nat):(List aP) × (List aP)->Option ((Bool) × Unit):=aH n F9 F7 [[.sl [.i .i64,.i .i64]],[.sl [.i .i64,.i .i64]]] [.b] [] [4] .no
def qY:=xu BIG
def xw:TSp:=⟨F8,[[.sl [.i .i64,.i .i64]],[.sl [.i .i64,.i .i64]]],[.b],[],Ou.j .no,qY⟩
theorem YY:zK F9 202 F8 F7 26 .no [4]:=by show _=_;kernel_rfl
theorem DZ:xw.Ok PG 202:=aO (ay PG) YY (by kernel_rfl)
theorem YZ (n) (a0) (a1):xu n (a0,a1) = bif !decide ((a0.length:Int)=(a1.length:Int)) then some (false,()) else (aJ n (X:=Int) (B:=(Unit) ⊕ (Bool)) (fun self1 x0=> bif decide (x0<(a0.length:Int)) then bnd a0.length x0 fun n2=> a0[n2]?.bind fun y3=> bnd a1.length x0 fun n4=> a1[n4]?.bind fun y5=> bif !(decide (y3.1=y5.1)&&(decide (y3.2=y5.2)&&true)) then some (Sum.inr false) else self1 (IntKind.wrap .i64 (x0+1)) else some (Sum.inl ())) (0:Int)).bind fun y=>match y with | .inl x6=> some (true,()) | .inr x6=> some (x6,()):=by kernel_rfl
def F_:TC:=
 (zS [dK 2 0,kP 3 1] (zQ (.join [⟨4,[.b],false⟩] 2147483632 none (zR [iP 5 2 0 5,iP 7 3 0 7,o8 9 6 8,ut 10 9 5 2 1 5,vV 13 5 3 1 5,DK 15 12 14 5,lC 10 15 16,Oi 18 12 2 3 3 3,DK 22 19 21 12,lC 17 22 23,Oi 25 19 2 2 3 2,qa 202 26 28 29 29 19,nA 24 29 30 4])) .ret))
def Ga:aL:=⟨[.rd true N_,.rd true N_],(.one false [.d])⟩
def Gb:aK:=aD [(202,xw)]
def xy (n:Nat):DT × DT->Option ((Bool) × Unit):=aH n Gb F_ [kw,kw] [.b] [] [4] .no
def qZ:=xy BIG
def Gc:TSp:=⟨Ga,[kw,kw],[.b],[],Ou.j .no,qZ⟩
theorem Y0:zK Gb 170 Ga F_ 31 .no [4]:=by show _=_;kernel_rfl
theorem Wt:Gc.Ok PG 170:=aO (ae DZ (ay PG)) Y0 (by kernel_rfl)
theorem Y1 (n) (a0) (a1):xy n (a0,a1) = (bif decide (a0.1=a1.1) then bif decide (a0.2.1=a1.2.1) then bif decide (a0.2.2.2=a1.2.2.2) then (qY (a0.2.2.1,a1.2.2.1)).bind fun r0=> some r0.1 else some false else some false else some false).bind fun x1=> some (x1,()):=by kernel_rfl
def Gd:TC:=
 (zS [kP 1 0] (zQ (.join [⟨2,[.b],false⟩] 262140 none (zR [jq 3,Jp 4 1 0 3 4,[o1 5 (.build fO [])],zEn 6 4 5,au 7 6,qV 8 4,BL 9 1 4 8 4,Oc 10 9 4,lC 7 10 11,qV 13 9,zEp 14 1 5 13 4 9,[o2 15 (.build kw []) 9 true],qa 170 14 15 16 16 9,nA 12 16 17 2])) .ret))
def Gf:aL:=⟨[.rd true Ct6],(.one false [.d])⟩
def Gg:aK:=aD [(170,Gc)]
def xz (n:Nat):apf->Option ((Bool) × Unit):=aH n Gg Gd [DD] [.b] [] [2] .no
def xA:=xz BIG
def Gh:TSp:=⟨Gf,[DD],[.b],[],Ou.j .no,xA⟩
theorem Y2:zK Gg 191 Gf Gd 18 .no [2]:=by show _=_;kernel_rfl
theorem Wu:Gh.Ok PG 191:=aO (ae Wt (ay PG)) Y2 (by kernel_rfl)
theorem Y3 (n) (a0):xz n a0 = (bif (decide (a0.1=0)&&(decide (a0.2.1=0)&&(decide (a0.2.2.1=0)&&(decide (a0.2.2.2.1=0)&&true)))) then bif decide (a0.2.2.2.2.1=0) then (qZ (a0.2.2.2.2.2,((0:Int),(0:Int),[],(0:Int)))).bind fun r0=> some r0.1 else some false else some false).bind fun x1=> some (x1,()):=by kernel_rfl
def Y4:TC:=
 (zS [kP 3 1] (zQ (.seq (.join [⟨26,[.b],false⟩] 134217696 none (zR [au 5 0,oZ 6 42 5 12,jN 7 6,au 8 7,rW 9 3,BM 10 3 0 9 3,Yz 42 10 100000 11 11 3 3 8,yB 15 9 3 1 9,Yz 42 16 4 17 17 9 9 14,jH 21 0 15,BQ 22 15 3 2,yx 139 21 23 24 24 15,tN 25 24 15 20])) (zC 26 (zS [bz 4] .ret) .skip)) (zQ (zS [bO 27 3 1] (.block 0 (zS [Td 30 28 3] (zC 29 (zQ (.join [⟨4,[.b],false⟩] 4395899027472 none (zR [YA 31 3 2,wX 34 33 0,ut 35 34 4 3 3 4,iE 38 0 4,zMr 39 38 4 42 37 4,nA 35 40 41 4])) .ret) (zS [yF 43 28 4 42] (zC 42 (zQ (.join [⟨4,[.b],false⟩] 8989607068696592 none (zR [YA 44 3 2,Yn 47 46 0,ut 48 47 4 3 3 4,Oc 51 50 4,nA 48 51 52 4])) .ret) .skip)))))) (zQ (.join [⟨4,[.b],false⟩] 4602678819172646928 none (zR [YA 53 3 2,wX 56 55 1,ut 57 56 4 3 3 4,Oc 60 59 4,nA 57 60 61 4])) .ret))))
def Y5:aL:=⟨[.rd false [.d],.rd true N_],(.one false [.d])⟩
def Y6:aK:=aD [(42,fH),(139,uu)]
def KQ (n:Nat):Int × DT->Option ((Bool) × Unit):=aH n Y6 Y4 [[.i .i64],kw] [.b] [] [4] .no
def Cw:=KQ BIG
def KR:TSp:=⟨Y5,[[.i .i64],kw],[.b],[],Ou.j .no,Cw⟩
theorem apv:zK Y6 119 Y5 Y4 62 .no [4]:=by show _=_;kernel_rfl
theorem Tv:KR.Ok PG 119:=aO (ae eU (ae xm (ay PG))) apv (by kernel_rfl)
theorem apw (n) (a0) (a1):KQ n (a0,a1) = ((bE (a0,(1:Int),(12:Int))).bind fun r0=> bif !r0.1 then some true else (bE (a1.1,(1:Int),(100000:Int))).bind fun r1=> bif !r1.1 then some true else (bE (a1.2.1,(1:Int),(4:Int))).bind fun r2=> bif !r2.1 then some true else (qx (a0,a1.2.2.1)).bind fun r3=> some !r3.1).bind fun x4=> bif x4 then some (false,()) else bif decide (a1.2.1=3) then (bif decide ((a1.2.2.1.length:Int)=0) then (bE (a1.2.2.2,(0:Int),IntKind.wrap .i64 (a0-1))).bind fun r5=> some r5.1 else some false).bind fun x6=> some (x6,()) else bif decide (a1.2.1=4) then (bif decide (0<(a1.2.2.1.length:Int)) then some (decide (a1.2.2.2=0)) else some false).bind fun x7=> some (x7,()) else (bif decide ((a1.2.2.1.length:Int)=1) then some (decide (a1.2.2.2=0)) else some false).bind fun x8=> some (x8,()):=by kernel_rfl
def Tw:TC:=
 (zS [dK 2 0,kP 3 1] (zQ (.seq (.join [⟨17,[.b],false⟩] 262112 none (zR [iP 5 3 1 5,oZ 7 42 6 4,jN 8 7,MO 9 8 4 3 2 4,yB 12 4 2 0 4,zEr 14 13 4,zEs 42 11 0 14 15 15 4,tN 16 15 4 9])) (zC 17 (zS [bz 4] .ret) .skip)) (zQ (zS [bO 18 3 1] (.block 0 (zS [Td 21 19 4] (zC 20 (zS [o9 22 3 3 2 3,l9 26 25,zEt 27 42 23 1 26,au 4 27] .ret) (zS [yF 29 19 3 28] (zC 28 (zS [o9 30 3 3 2 0,yz 34 33,Yq 35 42 31 34,au 4 35] .ret) .skip)))))) (zQ (.join [⟨4,[.b],false⟩] 562881233944592 none (zR [o9 36 3 3 2 0,yz 40 39,Yq 41 42 37 40,ut 42 41 6 3 2 6,vV 45 6 3 3 6,zEv 47 44 46 6,nA 42 47 48 4])) .ret))))
def Tx:aL:=⟨[.rd true oV,.rd true [.d,.d,.d,.d]],(.one false [.d])⟩
def Ty:aK:=aD [(42,fH)]
def H9 (n:Nat):eH × qG->Option ((Bool) × Unit):=aH n Ty Tw [bC,fO] [.b] [] [4] .no
def z_:=H9 BIG
def H_:TSp:=⟨Tx,[bC,fO],[.b],[],Ou.j .no,z_⟩
theorem akS:zK Ty 54 Tx Tw 49 .no [4]:=by show _=_;kernel_rfl
theorem OE:H_.Ok PG 54:=aO (ae eU (ay PG)) akS (by kernel_rfl)
theorem akT (n) (a0) (a1):H9 n (a0,a1) = ((bE (a1.2.1,(1:Int),(4:Int))).bind fun r0=> bif !r0.1 then some true else (bE (a1.2.2.1,(0:Int),IntKind.wrap .i64 (a0.1-1))).bind fun r1=> some !r1.1).bind fun x2=> bif x2 then some (false,()) else bif decide (a1.2.1=4) then (bE (a1.2.2.2,(1:Int),(a0.2.2.2.1.length:Int))).bind fun r3=> some (r3.1,()) else bif decide (a1.2.1=3) then (bE (a1.2.2.2,(0:Int),IntKind.wrap .i64 (a0.1-1))).bind fun r4=> some (r4.1,()) else ((bE (a1.2.2.2,(0:Int),IntKind.wrap .i64 (a0.1-1))).bind fun r5=> bif r5.1 then some (!decide (a1.2.2.1=a1.2.2.2)) else some false).bind fun x6=> some (x6,()):=by kernel_rfl
def OG:TC:=
 (zS [kP 1 0] (zS [jq 4,Jp 5 1 5 4 9,zEw 3 1000000004,dR 3 3 5] (zQ (zS [dM 6 3 9,gz 7 191 6] (zC 7 (zS [gX 2] .ret) .skip)) (zQ (.join [⟨2,[.b],false⟩] 2305843009213693700 none (zR [iP 8 3 4 8,YA 10 1 3,zEt 13 42 9 1 12,ut 14 13 6 1 0 6,qV 17 6,zEp 18 3 5 17 4 6,qa 119 16 18 19 19 6,lC 14 19 20,Yu 22 13 3 5,Oi 25 13 1 4 3 4,zDv 29 28 13,qW 30 26 29 13,BN 31 26 1 30 13,zEz 32 31 13,DK 33 24 32 13,lC 21 33 34,zEA 36 1 15 27,Yu 37 27 3 0,qa 53 36 39 40 40 27,zAi 41 40 0 27,lC 35 41 42,zEA 44 1 15 35,qV 45 35,zEp 46 3 0 45 4 35,qa 54 44 46 47 47 35,lC 43 47 48,Yu 50 41 3 1,[o2 53 (.data (.bin .neq) [.t 52,kD 3]) 41 true],lC 49 53 54,Yu 56 47 3 0,zEB 42 58 59 59 47,nA 55 59 60 2])) .ret))))
def OH:aL:=⟨[.rd true oV],(.one false [.d])⟩
def OI:aK:=aD [(191,Gh),(42,fH),(119,KR),(53,Cv),(54,H_)]
def D5 (n:Nat):eH->Option ((Bool) × Unit):=aH n OI OG [bC] [.b] [] [2] .no
def D6:=D5 BIG
def OJ:TSp:=⟨OH,[bC],[.b],[],Ou.j .no,D6⟩
theorem ahY:zK OI 141 OH OG 61 .no [2]:=by show _=_;kernel_rfl
theorem afG:OJ.Ok PG 141:=aO (ae Wu (ae eU (ae Tv (ae H8 (ae OE (ay PG)))))) ahY (by kernel_rfl)
theorem ahZ (n) (a0):D5 n a0 = (xA (a0.2.2.2.2.2.1,a0.2.2.2.2.2.2.1,a0.2.2.2.2.2.2.2.1,a0.2.2.2.2.2.2.2.2.1,a0.2.2.2.2.2.2.2.2.2.1,a0.2.2.2.2.2.2.2.2.2.2.1,a0.2.2.2.2.2.2.2.2.2.2.2.1,a0.2.2.2.2.2.2.2.2.2.2.2.2.1,a0.2.2.2.2.2.2.2.2.2.2.2.2.2.1)).bind fun r0=> bif r0.1 then some (true,()) else ((bE (a0.2.2.2.2.2.2.2.2.2.1,(1:Int),(a0.2.2.2.1.length:Int))).bind fun r1=> bif r1.1 then (Cw (a0.1,(a0.2.2.2.2.2.2.2.2.2.2.1,a0.2.2.2.2.2.2.2.2.2.2.2.1,a0.2.2.2.2.2.2.2.2.2.2.2.2.1,a0.2.2.2.2.2.2.2.2.2.2.2.2.2.1))).bind fun r2=> bif r2.1 then bnd a0.2.2.2.2.1.length (IntKind.wrap .i64 (a0.2.2.2.2.2.2.2.2.2.1-1)) fun n3=> a0.2.2.2.2.1[n3]?.bind fun y4=> bif decide (a0.2.2.2.2.2.2.2.2.2.2.1=(IntKind.wrap .i64 (y4+1))) then (xq (a0,a0.2.2.2.2.2.1)).bind fun r5=> bif decide (r5.1<0) then (z_ (a0,(a0.2.2.2.2.2.1,a0.2.2.2.2.2.2.1,a0.2.2.2.2.2.2.2.1,a0.2.2.2.2.2.2.2.2.1))).bind fun r6=> bif r6.1 then bif !decide (a0.2.2.2.2.2.2.1=3) then (bE (a0.2.2.2.2.2.1,(1:Int),(100000:Int))).bind fun r7=> some r7.1 else some false else some false else some false else some false else some false else some false).bind fun x8=> some (x8,()):=by kernel_rfl
def adS:TC:=
 (zS [kP 1 0] (zQ (.seq (.join [⟨49,[.b],false⟩] 1125899906842368 none (zR [iP 8 1 0 8,oZ 10 42 9 12,FX 11 10 4 1 3 4,Jr 15 14 4,Yz 42 15 3 16 16 4 4 12,zLB 20 11 1 4,zLB 23 11 1 3,Jt 26 22 25 11 19,au 28 27,zLB 29 20 1 1,BQ 32 20 1 0,Jt 34 31 33 20 28,au 36 35,BQ 37 28 1 0,BQ 39 28 1 2,yx 139 38 40 41 41 28,DN 42 41 28 36,zLB 45 36 1 14,zDD 48 47 80 36,qU 44 48 49])) (zC 49 (zS [bz 2] .ret) .skip)) (zQ (.join [] 37778930737057254866956 (some [⟨2,[.b],false⟩]) (zS [bK 3] (.block 0 (.loop [⟨3,[.i .i64],false⟩] 37778930737057254866956 (zQ (zS [Oh 50 3 1 3 53] (zC 54 .skip (.exit 0))) (zQ (.join [] 37778787747769085853700 (some [⟨2,[.b],false⟩]) (.block 1 (zQ (.join [⟨74,[.b],false⟩] 37778787747769085853696 none (zR [au 61 3,o9 57 1 0 1 3,nz 62 60 61 1,jI 64 140 58 63,FX 65 64 9 1 4 9,Yw 69 3 9 68 9,Yr 71 68 1 70 9,zED 42 71 0 99991 72 72 9,tN 73 72 9 66])) (zC 74 (zS [bz 2] .ret) .skip)))) (zR [gY 55 3 3]))))))) (zQ (.join [] 2475842299638897592636538900 (some [⟨2,[.b],false⟩]) (zS [bK 4] (.block 2 (.loop [⟨4,[.i .i64],false⟩] 2475842299638897592636538900 (zQ (zS [SN 75 4 1 0,gy 78 75 77] (zC 78 .skip (.exit 2))) (zQ (.block 3 (zS [au 83 4,bO 81 1 1,nz 84 82 83 1,YA 86 1 3,zEt 89 42 85 1 88,jN 90 89] (zC 90 (zS [bz 2] .ret) .skip))) (zR [gY 79 4 4]))))))) (zQ (.join [] 664613995416577857881142980341923876 (some [⟨2,[.b],false⟩]) (zS [bK 5] (.block 4 (.loop [⟨5,[.i .i64],false⟩] 664613995416577857881142980341923876 (zQ (zS [Oh 91 5 1 2 94] (zC 95 .skip (.exit 4))) (zQ (.block 5 (zS [au 102 5,au 112 5,o9 98 1 1 1 2,SQ 103 101 102 2,nz 106 99 105 1,o9 108 1 1 1 2,zMf 113 111 112 2 1,nz 116 109 115 1,o8 118 107 117] (zC 118 (zS [bz 2] .ret) .skip))) (zR [gY 96 5 5]))))))) (zQ (.join [] 2854495384747305764224114002447086742625321156 (some [⟨2,[.b],false⟩]) (zS [bK 6] (.block 6 (.loop [⟨6,[.i .i64],false⟩] 2854495384747305764224114002447086742625321156 (zQ (zS [Oh 119 6 1 14 122] (zC 123 .skip (.exit 6))) (zQ (.join [] 2854495300341328031881956073055338414823440516 (some [⟨2,[.b],false⟩]) (.block 7 (zS [FW 126 1 14 6,kN 129 127 128 6 6,zEE 7 1000000008,dR 7 7 130] (zQ (.join [⟨150,[.b],false⟩] 2854492663152984394608864231902130818619801600 none (zR [bO 131 7 0,Yx 133 7 1,wY 136 132 135,MO 137 136 6 7 5 6,Yz 42 139 3 140 140 6 6 137,BP 144 1 15 12,BQ 145 12 7 0,yx 53 144 146 147 147 12,jH 148 6 12,Jt 149 147 148 12 143])) (zC 150 (zS [bz 2] .ret) .skip))))) (zR [gY 124 6 6]))))))) (zS [AZ 151 1 15 141,au 2 152] .ret)))))))
def adT:aL:=⟨[.rd true oV],(.one false [.d])⟩
def adU:aK:=aD [(42,fH),(139,uu),(140,DY),(53,Cv),(141,OJ)]
def OL (n:Nat):eH->Option ((Bool) × Unit):=aH n adU adS [bC] [.b] [] [2] .no
def A8:=OL BIG
def OM:TSp:=⟨adT,[bC],[.b],[],Ou.j .no,A8⟩
theorem as6:zK adU 52 adT adS 153 .no [2]:=by show _=_;kernel_rfl
theorem Y7:OM.Ok PG 52:=aO (ae eU (ae xm (ae MX (ae H8 (ae afG (ay PG)))))) as6 (by kernel_rfl)
theorem as7 (n) (a0):OL n a0 =
 ((bE (a0.1,(1:Int),(12:Int))).bind fun r0=>
  bif !r0.1 then
   some true
  else (bE ((a0.2.2.2.1.length:Int),(1:Int),(3:Int))).bind fun r1=>
  bif !r1.1 then
   some true
  else bif !decide ((a0.2.2.2.2.1.length:Int)=(a0.2.2.2.1.length:Int)) then
   some true
  else bif !decide ((a0.2.1.length:Int)=a0.1) then
   some true
  else (qx (a0.1,a0.2.2.1)).bind fun r2=>
  bif !r2.1 then
   some true
  else some (decide (80<(a0.2.2.2.2.2.2.2.2.2.2.2.2.2.2.length:Int)))).bind fun x3=>
 bif x3 then
  some (false,())
 else (aJ n (X:=Int) (B:=(Unit) ⊕ (Bool)) (fun self5 x4=>
  bif decide (x4<(a0.2.2.2.1.length:Int)) then
   ((bnd a0.2.2.2.1.length x4 fun n6=>
    a0.2.2.2.1[n6]?.bind fun y7=>
    (xn (a0.1,y7)).bind fun r8=>
    bif !r8.1 then
     some true
    else bnd a0.2.2.2.2.1.length x4 fun n9=>
    a0.2.2.2.2.1[n9]?.bind fun y10=>
    (bE (y10,(0:Int),(99991:Int))).bind fun r11=>
    some !r11.1).bind fun x12=>
    bif x12 then
     some (Sum.inr false)
    else some (Sum.inl ())).bind fun y=>match y with
   | .inl x13=>
    self5 (IntKind.wrap .i64 (x4+1))
   | .inr x13=>
    some (Sum.inr x13)
  else some (Sum.inl ())) (0:Int)).bind fun y=>match y with
 | .inl x14=>
  (aJ n (X:=Int) (B:=(Unit) ⊕ (Bool)) (fun self16 x15=>
   bif decide (x15<a0.1) then
    bnd a0.2.1.length x15 fun n17=>
    a0.2.1[n17]?.bind fun y18=>
    (bE (y18,(1:Int),(a0.2.2.2.1.length:Int))).bind fun r19=>
    bif !r19.1 then
     some (Sum.inr false)
    else self16 (IntKind.wrap .i64 (x15+1))
   else some (Sum.inl ())) (0:Int)).bind fun y=>match y with
  | .inl x20=>
   (aJ n (X:=Int) (B:=(Unit) ⊕ (Bool)) (fun self22 x21=>
    bif decide (x21<(a0.2.2.1.length:Int)) then
     bnd a0.2.2.1.length x21 fun n23=>
     a0.2.2.1[n23]?.bind fun y24=>
     bnd a0.2.1.length y24.1 fun n25=>
     a0.2.1[n25]?.bind fun y26=>
     bnd a0.2.2.1.length x21 fun n27=>
     a0.2.2.1[n27]?.bind fun y28=>
     bnd a0.2.1.length y28.2 fun n29=>
     a0.2.1[n29]?.bind fun y30=>
     bif decide (y26=y30) then
      some (Sum.inr false)
     else self22 (IntKind.wrap .i64 (x21+1))
    else some (Sum.inl ())) (0:Int)).bind fun y=>match y with
   | .inl x31=>
    (aJ n (X:=Int) (B:=(Unit) ⊕ (Bool)) (fun self33 x32=>
     bif decide (x32<(a0.2.2.2.2.2.2.2.2.2.2.2.2.2.2.length:Int)) then
      (bnd a0.2.2.2.2.2.2.2.2.2.2.2.2.2.2.length x32 fun n34=>
       a0.2.2.2.2.2.2.2.2.2.2.2.2.2.2[n34]?.bind fun y35=>
       (bif !decide (y35.1=y35.2.1) then
        some true
        else (bE (y35.2.2.2.2.2,(1:Int),(3:Int))).bind fun r36=>
        bif !r36.1 then
         some true
        else (xq (a0,y35.1)).bind fun r37=>
        some (!decide (r37.1=x32))).bind fun x38=>
       bif x38 then
        some (Sum.inr false)
       else some (Sum.inl ())).bind fun y=>match y with
      | .inl x39=>
       self33 (IntKind.wrap .i64 (x32+1))
      | .inr x39=>
       some (Sum.inr x39)
     else some (Sum.inl ())) (0:Int)).bind fun y=>match y with
    | .inl x40=>
     (D6 a0).bind fun r41=>
     some (r41.1,())
    | .inr x40=>
     some (x40,())
   | .inr x31=>
    some (x31,())
  | .inr x20=>
   some (x20,())
 | .inr x14=>
  some (x14,()):=by kernel_rfl
def adV:TC:=
 (zS [dK 4 1] (zS [dA 6,dA 7,au 14 2,rV 8 7,Jn 9 8,zGb 10 14 9,bO 11 4 0,dM 13 4 4,zGc 15 12 13 14,zGd 16 15,zBt 10 10 16 17 10 10 0 17,ny 18 6,zBu 0 17 10 0 14 19 17] (zR [dA 20,zGe 21,ny 22 20,zGf 0 21 0 5 23 21])))
def adW:aL:=⟨[.mp oV,.rd true [.d,.d,.d,.d],.rd false [.d]],.u⟩
def adX:aK:=aD []
def OO (n:Nat):eH × qG × Int->Option ((Unit) × Int × List Int × List aP × List (List Int) × List Int × Int × Int × Int × Int × Int × Int × Int × List aP × Int × List ve):=aH n adX adV [bC,fO,[.i .i64]] [] bC [] (.mp 0)
def o_:=OO BIG
def Gi:TSp:=⟨adW,[bC,fO,[.i .i64]],[],bC,Ou.j (.mp 0),o_⟩
theorem as8:zK adX 55 adW adV 24 (.mp 0) []:=by show _=_;kernel_rfl
theorem KS:Gi.Ok PG 55:=aO (ay PG) as8 (by kernel_rfl)
theorem as9 (n) (a0) (a1) (a2):OO n (a0,a1,a2) = bif decide (a0.2.2.2.2.2.2.2.2.2.2.2.2.2.2.length+([(a1.1,a1.1,a1.2.1,a1.2.2.1,a1.2.2.2,a2)]).length<=4294967296) then some ((),(a0.1,a0.2.1,a0.2.2.1,a0.2.2.2.1,a0.2.2.2.2.1,(0:Int),(0:Int),(0:Int),(0:Int),(0:Int),(0:Int),(0:Int),[],(0:Int),a0.2.2.2.2.2.2.2.2.2.2.2.2.2.2++([(a1.1,a1.1,a1.2.1,a1.2.2.1,a1.2.2.2,a2)]))) else none:=by kernel_rfl
def Jy:TC:=
 (zS [yu 6,bz 7] (zS [Yp 12,dC 12 8 12] (zQ (.seq (.join [⟨25,[.b],false⟩] 67100672 none (zR [au 13 0,oZ 14 42 13 12,Jw 15 14 1 3,Jr 18 17 3,zDD 19 18 3 3,qU 16 19 20,au 21 20,jH 22 2 8,Jr 23 22 8,zDD 24 23 1000 8,qU 21 24 25])) (zC 25 (zS [Tc 26 6,bz 7] .ret) .skip)) (zQ (.join [⟨8,[.sl [.i .i64,.i .i64]],false⟩] 302231454903657159460800 (some [⟨6,[.sl [.i .i64]],false⟩,⟨7,[.b],false⟩]) (zS [bK 9] (.block 0 (.loop [⟨8,[.sl [.i .i64,.i .i64]],false⟩,⟨9,[.i .i64],false⟩] 302231454903657159460800 (zQ (zS [BR 27 9 1] (zC 30 .skip (.exit 0))) (zQ (.join [⟨8,[.sl [.i .i64,.i .i64]],false⟩] 302231454903648703743424 (some [⟨6,[.sl [.i .i64]],false⟩,⟨7,[.b],false⟩]) (.block 1 (zQ (zS [SS 33 1 9 1,l9 37 36,au 38 0,wY 39 37 38] (zC 39 (zS [Tc 40 6,bz 7] .ret) .skip)) (zS [bK 10] (.block 2 (.loop [⟨8,[.sl [.i .i64,.i .i64]],false⟩,⟨10,[.i .i64],false⟩] 302231454901458270422464 (zQ (zS [SY 41 10 0] (zC 43 .skip (.exit 2))) (zQ (.join [⟨8,[.sl [.i .i64,.i .i64]],false⟩] 302231454833288549499328 (some [⟨6,[.sl [.i .i64]],false⟩,⟨7,[.b],false⟩]) (.block 3 (zQ (zS [SS 46 1 9 1,au 50 10,nz 51 49 50 1,au 53 10,Yq 54 42 52 53,jN 55 54] (zC 55 (zS [Tc 56 6,bz 7] .ret) .skip)) (zS [SS 57 1 9 1,au 61 10,nz 62 60 61 1,au 64 10,gy 65 63 64] (zC 65 (zR [dC 8 66 8,SS 67 1 9 1,au 71 10,nz 72 70 71 1,au 74 10,MK 75 73 74,Jv 76 75 66 66 8]) .skip))))) (zR [Ju 44 10]))))))))) (zR [gY 31 9 9]))))))) (zQ (.join [⟨8,[.sl [.i .i64,.i .i64]],false⟩] 633824997882659797091057928640 (some [⟨6,[.sl [.i .i64]],false⟩,⟨7,[.b],false⟩]) (zS [bK 11] (.block 4 (.loop [⟨8,[.sl [.i .i64,.i .i64]],false⟩,⟨11,[.i .i64],false⟩] 633824997882659797091057928640 (zQ (zS [BR 78 11 2] (zC 81 .skip (.exit 4))) (zQ (.block 5 (zQ (zS [df 84 0 2,au 86 11,kN 87 85 86 2 2,jI 89 128 84 88,jN 90 89] (zC 90 (zS [Tc 91 6,bz 7] .ret) .skip)) (zR [dC 8 92 8,S9 93 2 11 2 2,Jv 97 96 92 92 8]))) (zR [Ju 82 11]))))))) (zS [au 99 0,dC 8 100 8,zMx 101 142 99 100 6,gX 7] .ret))))))
def Jz:aL:=⟨[.rd false [.d],.rd false [.sl (.own none) fF],.rd false iG],(.tup [(false,1),(false,1)] apd)⟩
def JA:aK:=aD [(42,fH),(128,A7),(142,DV)]
def zg (n:Nat):Int × List (List Int) × (List aP)->Option ((List Int × Bool) × Unit):=aH n JA Jy [[.i .i64],[.sl [.sl [.i .i64]]],[.sl [.i .i64,.i .i64]]] [.sl [.i .i64],.b] [] [6,7] .no
def zh:=zg BIG
def JB:TSp:=⟨Jz,[[.i .i64],[.sl [.sl [.i .i64]]],[.sl [.i .i64,.i .i64]]],[.sl [.i .i64],.b],[],Ou.j .no,zh⟩
theorem ab_:zK JA 56 Jz Jy 102 .no [6,7]:=by show _=_;kernel_rfl
theorem Y8:JB.Ok PG 56:=aO (ae eU (ae Cu (ae MR (ay PG)))) ab_ (by kernel_rfl)
theorem aca (n) (a0) (a1) (a2):zg n (a0,a1,a2) =
 ((bE (a0,(1:Int),(12:Int))).bind fun r0=>
  bif !r0.1 then
   some true
  else bif decide (3<(a1.length:Int)) then
   some true
  else some (decide (1000<(a2.length:Int)))).bind fun x1=>
 bif x1 then
  some (([],false),())
 else (aJ n (X:=(List aP) × Int) (B:=((List aP)) ⊕ ((List Int) × Bool)) (fun self3 x2=>
  bif decide (x2.2<(a1.length:Int)) then
   (bnd a1.length x2.2 fun n4=>
    a1[n4]?.bind fun y5=>
    bif !decide ((y5.length:Int)=a0) then
     some (Sum.inr ([],false))
    else aJ n (X:=(List aP) × Int) (B:=((List aP)) ⊕ ((List Int) × Bool)) (fun self7 x6=>
     bif decide (x6.2<a0) then
      (bnd a1.length x2.2 fun n8=>
       a1[n8]?.bind fun y9=>
       bnd y9.length x6.2 fun n10=>
       y9[n10]?.bind fun y11=>
       (bE (y11,(0:Int),x6.2)).bind fun r12=>
       bif !r12.1 then
        some (Sum.inr ([],false))
       else bnd a1.length x2.2 fun n13=>
       a1[n13]?.bind fun y14=>
       bnd y14.length x6.2 fun n15=>
       y14[n15]?.bind fun y16=>
       bif decide (y16<x6.2) then
        bnd a1.length x2.2 fun n17=>
        a1[n17]?.bind fun y18=>
        bnd y18.length x6.2 fun n19=>
        y18[n19]?.bind fun y20=>
        bif decide (x6.1.length+([(y20,x6.2)]).length<=4294967296) then
         some (Sum.inl (x6.1++([(y20,x6.2)])))
        else none
       else some (Sum.inl x6.1):Option (((List aP)) ⊕ ((List Int) × Bool))).bind fun y=>match y with
      | .inl x21=>
       self7 (x21,IntKind.wrap .i64 (x6.2+1))
      | .inr x21=>
       some (Sum.inr (x21.1,x21.2))
     else some (Sum.inl x6.1)) (x2.1,(0:Int)):Option (((List aP)) ⊕ ((List Int) × Bool))).bind fun y=>match y with
   | .inl x22=>
    self3 (x22,IntKind.wrap .i64 (x2.2+1))
   | .inr x22=>
    some (Sum.inr (x22.1,x22.2))
  else some (Sum.inl x2.1)) ([],(0:Int))).bind fun y=>match y with
 | .inl x23=>
  (aJ n (X:=(List aP) × Int) (B:=((List aP)) ⊕ ((List Int) × Bool)) (fun self25 x24=>
   bif decide (x24.2<(a2.length:Int)) then
    bnd a2.length x24.2 fun n26=>
    a2[n26]?.bind fun y27=>
    (vX (a0,y27)).bind fun r28=>
    bif !r28.1 then
     some (Sum.inr ([],false))
    else bnd a2.length x24.2 fun n29=>
    a2[n29]?.bind fun y30=>
    bif decide (x24.1.length+[y30].length<=4294967296) then
     self25 (x24.1++[y30],IntKind.wrap .i64 (x24.2+1))
    else none
   else some (Sum.inl x24.1)) (x23,(0:Int))).bind fun y=>match y with
  | .inl x31=>
   (xe (a0,x31)).bind fun r32=>
   some ((r32.1,true),())
  | .inr x31=>
   some (x31,())
 | .inr x23=>
  some (x23,()):=by kernel_rfl
def Y9:TC:=
 (zS [dK 5 1,[o5 (.a (.t 3)) 7 3],bK 8] (zS [dA 9,AY 10 9 4,au 13 2,yz 14 13,FR 15 12 14 0 4 1,BK 17 16,MP 18 7 7 0 17] (zS [yE 19 5 4,au 21 2,jf 22 7 4,zGj,ny 24 19,zGk] (zS [nU 8 2] .ret))))
def Y_:aL:=⟨[.mp oV,.rd true [.d,.d,.d,.d],.rd false [.d],.tk true N_],(.one false [.d])⟩
def Za:aK:=aD []
def KU (n:Nat):eH × qG × Int × DT->Option ((Int) × Int × List Int × List aP × List (List Int) × List Int × Int × Int × Int × Int × Int × Int × Int × List aP × Int × List ve):=aH n Za Y9 [bC,fO,[.i .i64],kw] [.i .i64] bC [8] (.mp 0)
def Cx:=KU BIG
def KV:TSp:=⟨Y_,[bC,fO,[.i .i64],kw],[.i .i64],bC,Ou.j (.mp 0),Cx⟩
theorem apx:zK Za 57 Y_ Y9 26 (.mp 0) [8]:=by show _=_;kernel_rfl
theorem Tz:KV.Ok PG 57:=aO (ay PG) apx (by kernel_rfl)
theorem apy (n) (a0) (a1) (a2) (a3):KU n (a0,a1,a2,a3) = bnd a0.2.2.2.2.1.length (IntKind.wrap .i64 (a2-1)) fun n0=> a0.2.2.2.2.1[n0]?.bind fun y1=> some ((2:Int),(a0.1,a0.2.1,a0.2.2.1,a0.2.2.2.1,a0.2.2.2.2.1,a1.1,a1.2.1,a1.2.2.1,a1.2.2.2,a2,IntKind.wrap .i64 (y1+1),a3.2.1,a3.2.2.1,a3.2.2.2,a0.2.2.2.2.2.2.2.2.2.2.2.2.2.2)):=by kernel_rfl
def Zb:TC:=
 (zS [dK 1 0,qX 2 1000000003] (zQ (zS [iP 3 1 2 3,iP 5 1 3 5,gy 7 4 6] (zC 7 (zS [iP 8 1 2 8,bO 10 1 3,MK 12 9 11,dR 2 2 12] .ret) .skip)) (zS [o9 13 1 3 1 2,MK 17 14 16,dR 2 2 17] .ret)))
def Zc:aL:=⟨[.rd true [.d,.d,.d,.d]],(.one true [.d,.d])⟩
def Zd:aK:=aD []
def KW (n:Nat):qG->Option (aP × Unit):=aH n Zd Zb [fO] [.i .i64,.i .i64] [] [2] .no
def KX:=KW BIG
def Ze:TSp:=⟨Zc,[fO],[.i .i64,.i .i64],[],Ou.j .no,KX⟩
theorem apz:zK Zd 45 Zc Zb 18 .no [2]:=by show _=_;kernel_rfl
theorem akU:Ze.Ok PG 45:=aO (ay PG) apz (by kernel_rfl)
theorem apA (n) (a0):KW n a0 = bif decide (a0.2.2.1<a0.2.2.2) then some (a0.2.2,()) else some ((a0.2.2.2,a0.2.2.1),()):=by kernel_rfl
def adY:TC:=
 (zS [kP 3 1] (zQ (.join [] 262128 (some [⟨4,[.b],false⟩]) (zS [bK 5] (.block 0 (.loop [⟨5,[.i .i64],false⟩] 262128 (zQ (zS [df 6 5 0,l9 8 7,gy 9 6 8] (zC 9 .skip (.exit 0))) (zQ (.block 1 (zS [S9 12 0 5 2 2,dM 16 3 2,[o1 17 (.eqA [.i,.i] (.t 15) (.t 16) false)]] (zC 17 (zS [gX 4] .ret) .skip))) (zR [gY 10 5 5]))))))) (zS [bz 4] .ret)))
def adZ:aL:=⟨[.rd false iG,.rd true [.d,.d]],(.one false [.d])⟩
def ad1:aK:=aD []
def Gj (n:Nat):(List aP) × aP->Option ((Bool) × Unit):=aH n ad1 adY [[.sl [.i .i64,.i .i64]],[.i .i64,.i .i64]] [.b] [] [4] .no
def vY:=Gj BIG
def A9:TSp:=⟨adZ,[[.sl [.i .i64,.i .i64]],[.i .i64,.i .i64]],[.b],[],Ou.j .no,vY⟩
theorem as_:zK ad1 143 adZ adY 18 .no [4]:=by show _=_;kernel_rfl
theorem Cy:A9.Ok PG 143:=aO (ay PG) as_ (by kernel_rfl)
theorem ad2 (n) (a0) (a1):Gj n (a0,a1) = (aJ n (X:=Int) (B:=(Unit) ⊕ (Bool)) (fun self1 x0=> bif decide (x0<(a0.length:Int)) then bnd a0.length x0 fun n2=> a0[n2]?.bind fun y3=> bif (decide (y3.1=a1.1)&&(decide (y3.2=a1.2)&&true)) then some (Sum.inr true) else self1 (IntKind.wrap .i64 (x0+1)) else some (Sum.inl ())) (0:Int)).bind fun y=>match y with | .inl x4=> some (false,()) | .inr x4=> some (x4,()):=by kernel_rfl
def MZ:TC:=
 (zS [dK 3 1,AR 4] (zS [Yp 7,dC 7 5 7] (zQ (.join [⟨5,[.sl [.i .i64,.i .i64]],false⟩] 134217568 none (zS [bK 6] (.block 0 (.loop [⟨5,[.sl [.i .i64,.i .i64]],false⟩,⟨6,[.i .i64],false⟩] 134217568 (zQ (zS [df 8 6 0,yA 10 9 8] (zC 11 .skip (.exit 0))) (zQ (.join [⟨5,[.sl [.i .i64,.i .i64]],false⟩] 134201376 none (.block 1 (zS [S9 14 0 6 2 2,dM 18 3 2,zEk 19 17 18] (zC 19 (zR [dC 5 20 5,S9 21 0 6 2 2,Jv 25 24 20 20 5]) .skip)))) (zR [gY 12 6 6]))))))) (zS [tO 5 27 5 4] .ret))))
def M0:aL:=⟨[.rd false iG,.rd true [.d,.d]],(.one false iG)⟩
def M3:aK:=aD []
def Bw (n:Nat):(List aP) × aP->Option ((List aP) × Unit):=aH n M3 MZ [[.sl [.i .i64,.i .i64]],[.i .i64,.i .i64]] [.sl [.i .i64,.i .i64]] [] [4] .no
def uM:=Bw BIG
def Bz:TSp:=⟨M0,[[.sl [.i .i64,.i .i64]],[.i .i64,.i .i64]],[.sl [.i .i64,.i .i64]],[],Ou.j .no,uM⟩
theorem afH:zK M3 131 M0 MZ 28 .no [4]:=by show _=_;kernel_rfl
theorem JC:Bz.Ok PG 131:=aO (ay PG) afH (by kernel_rfl)
theorem afI (n) (a0) (a1):Bw n (a0,a1) = (aJ n (X:=(List aP) × Int) (B:=(List aP)) (fun self1 x0=> bif decide (x0.2<(a0.length:Int)) then (bnd a0.length x0.2 fun n2=> a0[n2]?.bind fun y3=> bif !(decide (y3.1=a1.1)&&(decide (y3.2=a1.2)&&true)) then bnd a0.length x0.2 fun n4=> a0[n4]?.bind fun y5=> bif decide (x0.1.length+[y5].length<=4294967296) then some (x0.1++[y5]) else none else some x0.1:Option ((List aP))).bind fun x6=> self1 (x6,IntKind.wrap .i64 (x0.2+1)) else some x0.1) ([],(0:Int))).bind fun x7=> some (x7,()):=by kernel_rfl
def ad3:TC:=
 (zS [dK 3 1,AR 4] (zS [Yp 8,dC 8 5 8] (zQ (.join [⟨5,[.sl [.i .i64,.i .i64]],false⟩] 268435040 none (zS [bK 6] (.block 0 (.loop [⟨5,[.sl [.i .i64,.i .i64]],false⟩,⟨6,[.i .i64],false⟩] 268435040 (zQ (zS [df 9 6 0,yA 11 10 9] (zC 12 .skip (.exit 0))) (zQ (.join [⟨5,[.sl [.i .i64,.i .i64]],false⟩] 268402720 none (.block 1 (zS [S9 15 0 6 2 2,yC 19 3 2 187 18] (zC 20 (zR [dC 5 21 5,S9 22 0 6 2 2,Jv 26 25 21 21 5]) .skip)))) (zR [gY 13 6 6]))))))) (zS [dC 5 28 5,dM 29 3 2,Jv 30 29 28 28 5] (zQ (.join [⟨5,[.sl [.i .i64,.i .i64]],false⟩] 2251795518718112 none (zS [bK 7] (.block 2 (.loop [⟨5,[.sl [.i .i64,.i .i64]],false⟩,⟨7,[.i .i64],false⟩] 2251795518718112 (zQ (zS [BR 32 7 0] (zC 35 .skip (.exit 2))) (zQ (.join [⟨5,[.sl [.i .i64,.i .i64]],false⟩] 2251524935778336 none (.block 3 (zS [df 39 0 7,dM 38 3 2,kN 41 39 40 2 2,jI 43 187 38 42] (zC 43 (zR [dC 5 44 5,S9 45 0 7 2 2,Jv 49 48 44 44 5]) .skip)))) (zR [gY 36 7 7]))))))) (zS [tO 5 51 5 4] .ret))))))
def ad4:aL:=⟨[.rd false iG,.rd true [.d,.d]],(.one false iG)⟩
def ad5:aK:=aD [(187,KO)]
def OP (n:Nat):(List aP) × aP->Option ((List aP) × Unit):=aH n ad5 ad3 [[.sl [.i .i64,.i .i64]],[.i .i64,.i .i64]] [.sl [.i .i64,.i .i64]] [] [4] .no
def A_:=OP BIG
def Gl:TSp:=⟨ad4,[[.sl [.i .i64,.i .i64]],[.i .i64,.i .i64]],[.sl [.i .i64,.i .i64]],[],Ou.j .no,A_⟩
theorem ata:zK ad5 130 ad4 ad3 52 .no [4]:=by show _=_;kernel_rfl
theorem KY:Gl.Ok PG 130:=aO (ae Tp (ay PG)) ata (by kernel_rfl)
theorem atb (n) (a0) (a1):OP n (a0,a1) = (aJ n (X:=(List aP) × Int) (B:=(List aP)) (fun self1 x0=> bif decide (x0.2<(a0.length:Int)) then (bnd a0.length x0.2 fun n2=> a0[n2]?.bind fun y3=> (xh (y3,a1)).bind fun r4=> bif r4.1 then bnd a0.length x0.2 fun n5=> a0[n5]?.bind fun y6=> bif decide (x0.1.length+[y6].length<=4294967296) then some (x0.1++[y6]) else none else some x0.1:Option ((List aP))).bind fun x7=> self1 (x7,IntKind.wrap .i64 (x0.2+1)) else some x0.1) ([],(0:Int))).bind fun x8=> bif decide (x8.length+[a1].length<=4294967296) then (aJ n (X:=(List aP) × Int) (B:=(List aP)) (fun self10 x9=> bif decide (x9.2<(a0.length:Int)) then (bnd a0.length x9.2 fun n11=> a0[n11]?.bind fun y12=> (xh (a1,y12)).bind fun r13=> bif r13.1 then bnd a0.length x9.2 fun n14=> a0[n14]?.bind fun y15=> bif decide (x9.1.length+[y15].length<=4294967296) then some (x9.1++[y15]) else none else some x9.1:Option ((List aP))).bind fun x16=> self10 (x16,IntKind.wrap .i64 (x9.2+1)) else some x9.1) (x8++[a1],(0:Int))).bind fun x17=> some (x17,()) else none:=by kernel_rfl
def OQ:TC:=
 (zS [dK 3 1,bK 4] (zS [dM 8 3 4,gz 9 45 8,qX 5 1000000006,dR 5 5 9] (zS [nU 6 1] (zQ (.join [⟨6,[.i .i64],false⟩] 7232 none (zS [bO 10 3 1,wX 12 11 2] (zC 12 (zR [nU 6 2]) .skip))) (zQ (zS [dA 13,dA 21,AY 14 13 1,bO 17 5 0,FR 19 16 18 0 1 1,AY 22 21 1,bO 25 5 1,FR 27 24 26 0 1 1,o8 29 20 28] (zC 29 (zS [dA 30,dA 32,au 40 6,dM 31 3 4,AY 33 32 1,bO 36 5 0,FR 38 35 37 0 1 1,dM 41 5 2,zGh 42 41,[o5 (.build kw [(1,.t 40),(2,.t 42)]) 43 42,⟨false,[],[],.call 3 57 [.t 0,.t 31,.t 39,.t 43] (.mp 0),[44,0,43,16,19,24,27,38,35],(some 44),none⟩],au 4 44] .ret) .skip)) (zS [FQ 45 2,yC 49 5 2 143 48,au 7 50] (zQ (zS [SN 51 7 3 1,wX 54 53 1,[o1 55 (.data (.beq false) [.t 51,.t 54])]] (zC 55 (zS [yE 56 3 4,[⟨false,[],[],.call 2 55 [.t 0,.t 57,kO 2] (.mp 0),[58,0,16,19,24,27,48],(some 58),none⟩]] (zS [nU 4 1] .ret)) .skip)) (zQ (.join [⟨0,bC,false⟩] 302230878724380118548481 none (zS [au 59 7] (zC 59 (zR [dA 60,FQ 61 2,yC 65 5 2 131 64,ny 67 60,zGo 66 64 68 66]) (zR [dA 69,FQ 70 2,yC 74 5 2 130 73,ny 76 69,zGo 75 73 77 75])))) (zS [yE 78 3 4,Od 55 0 79 1 80 0 80] (zS [nU 4 1] .ret))))))))))
def OT:aL:=⟨[.mp oV,.rd true [.d,.d,.d,.d]],(.one false [.d])⟩
def OU:aK:=aD [(45,Ze),(57,KV),(143,A9),(55,Gi),(131,Bz),(130,Gl)]
def D7 (n:Nat):eH × qG->Option ((Int) × Int × List Int × List aP × List (List Int) × List Int × Int × Int × Int × Int × Int × Int × Int × List aP × Int × List ve):=aH n OU OQ [bC,fO] [.i .i64] bC [4] (.mp 0)
def D8:=D7 BIG
def OV:TSp:=⟨OT,[bC,fO],[.i .i64],bC,Ou.j (.mp 0),D8⟩
theorem ah0:zK OU 58 OT OQ 81 (.mp 0) [4]:=by show _=_;kernel_rfl
theorem afJ:OV.Ok PG 58:=aO (ae akU (ae Tz (ae Cy (ae KS (ae JC (ae KY (ay PG))))))) ah0 (by kernel_rfl)
theorem ah1 (n) (a0) (a1):D7 n (a0,a1) = (KX a1).bind fun r0=> (bif decide (a1.2.1=2) then some (2:Int) else some (1:Int)).bind fun x1=> bnd a0.2.1.length r0.1.1 fun n2=> a0.2.1[n2]?.bind fun y3=> bnd a0.2.1.length r0.1.2 fun n4=> a0.2.1[n4]?.bind fun y5=> bif decide (y3=y5) then bnd a0.2.1.length r0.1.1 fun n6=> a0.2.1[n6]?.bind fun y7=> (Cx (a0,a1,y7,((0:Int),x1,[r0.1],(0:Int)))).bind fun r8=> some (r8.1,r8.2) else (vY (a0.2.2.1,r0.1)).bind fun r9=> bif (r9.1 == (decide (a1.2.1=1))) then (o_ (a0,a1,(2:Int))).bind fun r10=> some ((1:Int),r10.2) else (bif r9.1 then (uM (a0.2.2.1,r0.1)).bind fun r11=> some (a0.1,a0.2.1,r11.1,a0.2.2.2) else (A_ (a0.2.2.1,r0.1)).bind fun r12=> some (a0.1,a0.2.1,r12.1,a0.2.2.2)).bind fun x13=> (o_ (x13,a1,(1:Int))).bind fun r14=> some ((1:Int),r14.2):=by kernel_rfl
def ane:TC:=
 (zS [dK 2 0,dK 3 1,p_ 4 1000000005,bK 5] (zS [AZ 12 2 15 51,p_ 6 1000000007,iZ 6 13 6 13] (zQ (.seq (.join [⟨39,[.b],false⟩] 1099511611392 none (zR [dM 14 2 15,gz 15 52 14,FX 16 15 3 3 0 3,Yz 42 19 100000 20 20 3 3 17,BP 24 2 15 9,yB 25 9 3 0 9,yx 53 24 26 27 27 9,zGq 28 27 0 9,qU 23 28 29,au 30 29,BP 31 2 15 16,SH 39 31 32 32 16,qU 30 32 33,au 34 33,zLB 35 20 2 14,zGq 38 37 80 20,qU 34 38 39])) (zC 39 (zS [w9 40 6 15 4 4 6,bK 5] .ret) .skip)) (zQ (zS [dM 41 2 15,yC 42 3 4 54 41,jN 44 43] (zC 44 (zS [dM 45 3 4,Od 55 6 45 3 46 6 46] (zS [w9 47 6 15 4 4 6,nU 5 1] .ret)) .skip)) (zQ (zS [bO 48 3 1] (.block 0 (zS [Td 51 49 3] (zC 50 (zS [o9 53 2 0 2 3,bO 57 2 2,DL 59 56 54 56 58,DR 59 52 59 1 1,dC 60 7 60,au 8 61] (zS [nU 9 2] (zQ (.join [⟨9,[.i .i64],false⟩] 9440121279720863040000 none (zS [gN 62 7,gN 67 7,Oj 63 3 2 62 7 1,Oj 68 3 3 67 7 1,o8 72 66 71] (zC 72 (zR [nU 9 1]) .skip))) (zS [dM 73 3 4,au 74 9,zGt 55 6 73 74 75 6 75] (zS [w9 76 6 15 4 4 6,nU 5 1] .ret))))) (zS [yF 78 49 4 77] (zC 77 (zQ (zS [o9 79 2 1 3 2,nz 83 80 82 1,bO 85 3 3,o8 87 84 86] (zC 87 (zS [dM 88 3 4,Od 55 6 88 2 89 6 89] (zS [w9 90 6 15 4 4 6,nU 5 1] .ret)) .skip)) (zS [zGu 1000000002 4 91 91,ML 1000000002 92 92 2 1,zMh 1000000002 94 94 3 2 93,zGy 1000000002 93 0 1 96 97 97,bO 98 3 2,zGz 99 100,zGA 57 6 91 97 100 101 6 100 101,au 10 101] (zS [jf 102 6 15,au 103 10,FN 102 4 102 4 102 102 6,au 5 103] .ret))) .skip)))))) (zS [dM 104 3 4,zGB 58 6 104 105 6 105,au 11 105] (zS [jf 106 6 15,au 107 11,FN 106 4 106 4 106 106 6,au 5 107] .ret)))))))
def anf:aL:=⟨[.rd true oV,.rd true [.d,.d,.d,.d]],(.tup [(true,15),(false,1)] Ct0)⟩
def ang:aK:=aD [(51,Ct),(52,OM),(42,fH),(53,Cv),(39,R5),(54,H_),(55,Gi),(56,JB),(57,KV),(58,OV)]
def acb (n:Nat):eH × qG->Option (Zt2 × Unit):=aH n ang ane [bC,fO] Ty0 [] [4,5] .no
def Db:=acb BIG
def acd:TSp:=⟨anf,[bC,fO],Ty0,[],Ou.j .no,Db⟩
theorem azj:zK ang 11 anf ane 108 .no [4,5]:=by show _=_;kernel_rfl
theorem ah2:acd.Ok PG 11:=aO (ae H6 (ae Y7 (ae eU (ae H8 (ae Wq (ae OE (ae KS (ae Y8 (ae Tz (ae afJ (ay PG))))))))))) azj (by kernel_rfl)
theorem azk (n) (a0) (a1):acb n (a0,a1) = (nV a0).bind fun r0=> ((A8 a0).bind fun r1=> bif !r1.1 then some true else (bE (a1.1,(1:Int),(100000:Int))).bind fun r2=> bif !r2.1 then some true else (xq (a0,a1.1)).bind fun r3=> bif decide (0<=r3.1) then some true else (Da a0).bind fun r4=> bif r4.1 then some true else some (decide (80<=(a0.2.2.2.2.2.2.2.2.2.2.2.2.2.2.length:Int)))).bind fun x5=> bif x5 then some ((r0.1.1,r0.1.2.1,r0.1.2.2.1,r0.1.2.2.2.1,r0.1.2.2.2.2.1,r0.1.2.2.2.2.2.1,r0.1.2.2.2.2.2.2.1,r0.1.2.2.2.2.2.2.2.1,r0.1.2.2.2.2.2.2.2.2.1,r0.1.2.2.2.2.2.2.2.2.2.1,r0.1.2.2.2.2.2.2.2.2.2.2.1,r0.1.2.2.2.2.2.2.2.2.2.2.2.1,r0.1.2.2.2.2.2.2.2.2.2.2.2.2.1,r0.1.2.2.2.2.2.2.2.2.2.2.2.2.2.1,r0.1.2.2.2.2.2.2.2.2.2.2.2.2.2.2,(0:Int)),()) else (z_ (a0,a1)).bind fun r6=> bif !r6.1 then (o_ (r0.1,a1,(3:Int))).bind fun r7=> some ((r7.2.1,r7.2.2.1,r7.2.2.2.1,r7.2.2.2.2.1,r7.2.2.2.2.2.1,r7.2.2.2.2.2.2.1,r7.2.2.2.2.2.2.2.1,r7.2.2.2.2.2.2.2.2.1,r7.2.2.2.2.2.2.2.2.2.1,r7.2.2.2.2.2.2.2.2.2.2.1,r7.2.2.2.2.2.2.2.2.2.2.2.1,r7.2.2.2.2.2.2.2.2.2.2.2.2.1,r7.2.2.2.2.2.2.2.2.2.2.2.2.2.1,r7.2.2.2.2.2.2.2.2.2.2.2.2.2.2.1,r7.2.2.2.2.2.2.2.2.2.2.2.2.2.2.2,(1:Int)),()) else bif decide (a1.2.1=3) then (zh (a0.1,a0.2.2.2.1,a0.2.2.1)).bind fun r8=> (bnd r8.1.1.length a1.2.2.1 fun n9=> r8.1.1[n9]?.bind fun y10=> bnd r8.1.1.length a1.2.2.2 fun n11=> r8.1.1[n11]?.bind fun y12=> bif decide (y10=y12) then some (1:Int) else some (2:Int)).bind fun x13=> (o_ (r0.1,a1,x13)).bind fun r14=> some ((r14.2.1,r14.2.2.1,r14.2.2.2.1,r14.2.2.2.2.1,r14.2.2.2.2.2.1,r14.2.2.2.2.2.2.1,r14.2.2.2.2.2.2.2.1,r14.2.2.2.2.2.2.2.2.1,r14.2.2.2.2.2.2.2.2.2.1,r14.2.2.2.2.2.2.2.2.2.2.1,r14.2.2.2.2.2.2.2.2.2.2.2.1,r14.2.2.2.2.2.2.2.2.2.2.2.2.1,r14.2.2.2.2.2.2.2.2.2.2.2.2.2.1,r14.2.2.2.2.2.2.2.2.2.2.2.2.2.2.1,r14.2.2.2.2.2.2.2.2.2.2.2.2.2.2.2,(1:Int)),()) else bif decide (a1.2.1=4) then bnd a0.2.1.length a1.2.2.1 fun n15=> a0.2.1[n15]?.bind fun y16=> bif decide (y16=a1.2.2.2) then (o_ (r0.1,a1,(2:Int))).bind fun r17=> some ((r17.2.1,r17.2.2.1,r17.2.2.2.1,r17.2.2.2.2.1,r17.2.2.2.2.2.1,r17.2.2.2.2.2.2.1,r17.2.2.2.2.2.2.2.1,r17.2.2.2.2.2.2.2.2.1,r17.2.2.2.2.2.2.2.2.2.1,r17.2.2.2.2.2.2.2.2.2.2.1,r17.2.2.2.2.2.2.2.2.2.2.2.1,r17.2.2.2.2.2.2.2.2.2.2.2.2.1,r17.2.2.2.2.2.2.2.2.2.2.2.2.2.1,r17.2.2.2.2.2.2.2.2.2.2.2.2.2.2.1,r17.2.2.2.2.2.2.2.2.2.2.2.2.2.2.2,(1:Int)),()) else bnd a0.2.1.length a1.2.2.1 fun n18=> a0.2.1[n18]?.bind fun y19=> (Cx (r0.1,a1,y19,((0:Int),(3:Int),[],a1.2.2.1))).bind fun r20=> some ((r20.2.1,r20.2.2.1,r20.2.2.2.1,r20.2.2.2.2.1,r20.2.2.2.2.2.1,r20.2.2.2.2.2.2.1,r20.2.2.2.2.2.2.2.1,r20.2.2.2.2.2.2.2.2.1,r20.2.2.2.2.2.2.2.2.2.1,r20.2.2.2.2.2.2.2.2.2.2.1,r20.2.2.2.2.2.2.2.2.2.2.2.1,r20.2.2.2.2.2.2.2.2.2.2.2.2.1,r20.2.2.2.2.2.2.2.2.2.2.2.2.2.1,r20.2.2.2.2.2.2.2.2.2.2.2.2.2.2.1,r20.2.2.2.2.2.2.2.2.2.2.2.2.2.2.2,r20.1),()) else (D8 (r0.1,a1)).bind fun r21=> some ((r21.2.1,r21.2.2.1,r21.2.2.2.1,r21.2.2.2.2.1,r21.2.2.2.2.2.1,r21.2.2.2.2.2.2.1,r21.2.2.2.2.2.2.2.1,r21.2.2.2.2.2.2.2.2.1,r21.2.2.2.2.2.2.2.2.2.1,r21.2.2.2.2.2.2.2.2.2.2.1,r21.2.2.2.2.2.2.2.2.2.2.2.1,r21.2.2.2.2.2.2.2.2.2.2.2.2.1,r21.2.2.2.2.2.2.2.2.2.2.2.2.2.1,r21.2.2.2.2.2.2.2.2.2.2.2.2.2.2.1,r21.2.2.2.2.2.2.2.2.2.2.2.2.2.2.2,r21.1),()):=by kernel_rfl
def Zf:TC:=
 (zS [dK 1 0,zGC 2 1000000003] (zS [iP 5 1 0 5,[o1 7 (.build kM [(0,.t 6)])],zGC 3 1000000004,iZ 3 7 3 7] (zQ (.join [⟨3,kM,false⟩] 8589934360 none (zS [bK 4] (.block 0 (.loop [⟨3,kM,false⟩,⟨4,[.i .i64],false⟩] 8589934360 (zQ (zS [au 8 4,iP 9 1 1 9,yA 11 10 8] (zC 12 .skip (.exit 0))) (zQ (.block 1 (zR [au 19 4,au 25 4,uq 15 3 1,bO 17 1 1,SQ 20 18 19 4,bO 23 1 1,zMf 26 24 25 4 1,MK 29 22 28,zGh 30 29,Yv 16 16 30 31 16 16 3 31 3 3 1])) (zR [gY 13 4 4]))))))) (zS [w9 33 3 2 2 2 3] .ret))))
def Zg:aL:=⟨[.rd true nE],(.one true Oa)⟩
def Zh:aK:=aD []
def KZ (n:Nat):eB->Option (Bu × Unit):=aH n Zh Zf [bH] kM [] [2] .no
def lU:=KZ BIG
def xB:TSp:=⟨Zg,[bH],kM,[],Ou.j .no,lU⟩
theorem apB:zK Zh 123 Zg Zf 34 .no [2]:=by show _=_;kernel_rfl
theorem Aa:xB.Ok PG 123:=aO (ay PG) apB (by kernel_rfl)
theorem apC (n) (a0):KZ n a0 = (aJ n (X:=Bu × Int) (B:=Bu) (fun self1 x0=> bif decide (x0.2<(a0.2.length:Int)) then bnd a0.2.length x0.2 fun n2=> a0.2[n2]?.bind fun y3=> bnd a0.2.length x0.2 fun n4=> a0.2[n4]?.bind fun y5=> bif decide (x0.1.2.length+([(y3.1,y5.2.1)]).length<=4294967296) then self1 ((x0.1.1,x0.1.2++([(y3.1,y5.2.1)])),IntKind.wrap .i64 (x0.2+1)) else none else some x0.1) ((a0.1,[]),(0:Int))).bind fun x6=> some (x6,()):=by kernel_rfl
def Zi:TC:=
 (zS [kP 1 0] (zQ (.join [⟨2,[.b],false⟩] 8188 none (zR [iP 3 1 0 3,oZ 5 42 4 12,au 6 5,qV 7 3,BL 8 1 0 7 3,qV 9 3,BL 10 1 1 9 3,qa 139 8 10 11 11 3,nA 6 11 12 2])) .ret))
def Zj:aL:=⟨[.rd true Oa],(.one false [.d])⟩
def Zk:aK:=aD [(42,fH),(139,uu)]
def K3 (n:Nat):Bu->Option ((Bool) × Unit):=aH n Zk Zi [kM] [.b] [] [2] .no
def Cz:=K3 BIG
def K4:TSp:=⟨Zj,[kM],[.b],[],Ou.j .no,Cz⟩
theorem apD:zK Zk 127 Zj Zi 13 .no [2]:=by show _=_;kernel_rfl
theorem TA:K4.Ok PG 127:=aO (ae eU (ae xm (ay PG))) apD (by kernel_rfl)
theorem apE (n) (a0):K3 n a0 = ((bE (a0.1,(1:Int),(12:Int))).bind fun r0=> bif r0.1 then (qx (a0.1,a0.2)).bind fun r1=> some r1.1 else some false).bind fun x2=> some (x2,()):=by kernel_rfl
def Zl:TC:=
 (zS [dK 2 0,AR 4] (zS [Yp 8,dC 8 5 8] (zQ (.join [⟨5,[.sl [.i .i64,.i .i64]],false⟩] 137438953184 none (zS [bK 6] (.block 0 (.loop [⟨5,[.sl [.i .i64,.i .i64]],false⟩,⟨6,[.i .i64],false⟩] 137438953184 (zQ (zS [SN 9 6 2 1,yA 12 11 9] (zC 13 .skip (.exit 0))) (zQ (.join [⟨5,[.sl [.i .i64,.i .i64]],false⟩] 137438888096 none (.block 1 (zS [FW 16 2 1 6,kN 19 17 18 4 4,SI 7 1000000008,dR 7 7 20] (zQ (.join [⟨28,[.b],false⟩] 534773760 none (zR [bO 21 7 3,ut 23 22 2 7 2 2,iE 26 1 2,zGE 27 25 26 2,oW 23 27 28])) (zC 28 (zR [dC 5 29 5,o9 30 7 0 7 1,MK 34 31 33,Jv 35 34 29 29 5]) .skip))))) (zR [gY 14 6 6]))))))) (zS [tO 5 37 5 4] .ret))))
def Zm:aL:=⟨[.rd true nE,.rd false [.d]],(.one false iG)⟩
def Zn:aK:=aD []
def CB (n:Nat):eB × Int->Option ((List aP) × Unit):=aH n Zn Zl [bH,[.i .i64]] [.sl [.i .i64,.i .i64]] [] [4] .no
def K5:=CB BIG
def Zo:TSp:=⟨Zm,[bH,[.i .i64]],[.sl [.i .i64,.i .i64]],[],Ou.j .no,K5⟩
theorem apG:zK Zn 203 Zm Zl 38 .no [4]:=by show _=_;kernel_rfl
theorem akV:Zo.Ok PG 203:=aO (ay PG) apG (by kernel_rfl)
theorem Zp (n) (a0) (a1):CB n (a0,a1) = (aJ n (X:=(List aP) × Int) (B:=(List aP)) (fun self1 x0=> bif decide (x0.2<(a0.2.length:Int)) then (bnd a0.2.length x0.2 fun n2=> a0.2[n2]?.bind fun y3=> (bif y3.2.2.2 then some (decide (a1<=y3.2.2.1)) else some false).bind fun x4=> bif x4 then bif decide (x0.1.length+([(y3.1,y3.2.1)]).length<=4294967296) then some (x0.1++([(y3.1,y3.2.1)])) else none else some x0.1:Option ((List aP))).bind fun x5=> self1 (x5,IntKind.wrap .i64 (x0.2+1)) else some x0.1) ([],(0:Int))).bind fun x6=> some (x6,()):=by kernel_rfl
def ah3:TC:=
 (zS [bz 4] (zQ (.join [] 262128 (some [⟨4,[.b],false⟩]) (zS [bK 5] (.block 0 (.loop [⟨5,[.i .i64],false⟩] 262128 (zQ (zS [df 6 5 0,l9 8 7,gy 9 6 8] (zC 9 .skip (.exit 0))) (zQ (.block 1 (zS [SS 12 0 5 1,au 16 1,o8 17 15 16] (zC 17 (zS [gX 4] .ret) .skip))) (zR [gY 10 5 5]))))))) (zS [bz 4] .ret)))
def ah4:aL:=⟨[.rd false fF,.rd false [.d]],(.one false [.d])⟩
def ah5:aK:=aD []
def Wv (n:Nat):List Int × Int->Option ((Bool) × Unit):=aH n ah5 ah3 [[.sl [.i .i64]],[.i .i64]] [.b] [] [4] .no
def jP:=Wv BIG
def vg:TSp:=⟨ah4,[[.sl [.i .i64]],[.i .i64]],[.b],[],Ou.j .no,jP⟩
theorem avY:zK ah5 204 ah4 ah3 18 .no [4]:=by show _=_;kernel_rfl
theorem vZ:vg.Ok PG 204:=aO (ay PG) avY (by kernel_rfl)
theorem avZ (n) (a0) (a1):Wv n (a0,a1) = (aJ n (X:=Int) (B:=(Unit) ⊕ (Bool)) (fun self1 x0=> bif decide (x0<(a0.length:Int)) then bnd a0.length x0 fun n2=> a0[n2]?.bind fun y3=> bif decide (y3=a1) then some (Sum.inr true) else self1 (IntKind.wrap .i64 (x0+1)) else some (Sum.inl ())) (0:Int)).bind fun y=>match y with | .inl x4=> some (false,()) | .inr x4=> some (x4,()):=by kernel_rfl
def K6:TC:=
 (zS [yu 10,bz 11] (zS [au 17 2,Jo 18 17,dC 18 12 18] (zS [FV 19 4 2,wW 21 19 20,zHa 4 19 4 0 1 0 21] (zQ (.join [⟨12,[.sl [.i .i64]],false⟩,⟨4,[.sl [.b]],false⟩] 147573952589672348688 (some [⟨10,[.sl [.i .i64]],false⟩,⟨11,[.b],false⟩,⟨4,[.sl [.b]],false⟩]) (zS [bK 13] (.block 0 (.loop [⟨12,[.sl [.i .i64]],false⟩,⟨4,[.sl [.b]],false⟩,⟨13,[.i .i64],false⟩] 147573952589674445840 (zQ (zS [SY 22 13 0] (zC 24 .skip (.exit 0))) (zQ (.join [⟨12,[.sl [.i .i64]],false⟩,⟨4,[.sl [.b]],false⟩] 147573952589542317072 (some [⟨10,[.sl [.i .i64]],false⟩,⟨11,[.b],false⟩,⟨4,[.sl [.b]],false⟩]) (.block 1 (zS [df 27 13 2,MK 29 27 28,qX 14 1000000015,dR 14 14 29] (zQ (.join [⟨14,[.i .i64,.i .i64],false⟩] 67645751296 none (zS [SY 30 2 13] (zC 32 (zR [df 33 2 13,MK 35 33 34,dR 14 14 35]) .skip))) (zQ (.seq (.join [⟨44,[.b],false⟩] 35115652612096 none (zR [df 36 13 3,o8 38 36 37,au 39 38,jH 40 1 3,S_ 41 14 2 3 143 40 3,tN 43 42 3 39])) (zC 44 (.exit 1) .skip)) (zQ (zS [FV 45 4 13,Js 47 45 46 4 1] (zC 48 (zS [tO 12 49 12 10,gX 11] .ret) .skip)) (zS [df 51 0 1,df 53 13 2,gN 55 4,[⟨false,[],[],.call 2 207 [.t 51,.t 52,.t 53,.t 54,.t 55] (.mt 4 [] 0 55 4),[56,4,45,47,55],(some 56),none⟩],DR 56 50 56 1 1,dC 57 15 57,au 16 58] (zQ (zS [au 59 16] (zC 59 (zS [tO 12 60 12 10,gX 11] .ret) .skip)) (zR [dC 12 61 12,dC 15 62 15,yw 61 62 63 61,au 64 2,Jo 65 64,MM 63 65 66 63 12]))))))))) (zR [Ju 25 13]))))))) (zS [tO 12 67 12 10,bz 11] .ret)))))
def K7:aL:=⟨[.rd false [.d],.rd false iG,.rd false [.d],.rd false [.d],.mt false fF],(.tup [(false,1),(false,1)] apd)⟩
def K8 (q:Int × (List aP) × Int × Int × List (Bool)->Option ((List Int × Bool) × List (Bool))):aK:=aD [(143,A9),(207,⟨K7,[[.i .i64],[.sl [.i .i64,.i .i64]],[.i .i64],[.i .i64],[.sl [.b]]],[.sl [.i .i64],.b],[.sl [.b]],Ou.j (.mt 4 4 0),q⟩)]
def K9 (q:Int × (List aP) × Int × Int × List (Bool)->Option ((List Int × Bool) × List (Bool))) (n:Nat):Int × (List aP) × Int × Int × List (Bool)->Option ((List Int × Bool) × List (Bool)):=aH n (K8 q) K6 [[.i .i64],[.sl [.i .i64,.i .i64]],[.i .i64],[.i .i64],[.sl [.b]]] [.sl [.i .i64],.b] [.sl [.b]] [10,11] (.mt 4 4 0)
def xC:Nat->Int × (List aP) × Int × Int × List (Bool)->Option ((List Int × Bool) × List (Bool))
 | 0=>fun _=>none
 | d+1=>K9 (xC d) BIG
def Zq (d:Nat):TSp:=⟨K7,[[.i .i64],[.sl [.i .i64,.i .i64]],[.i .i64],[.i .i64],[.sl [.b]]],[.sl [.i .i64],.b],[.sl [.b]],Ou.j (.mt 4 4 0),(xC d)⟩
theorem apH (q:Int × (List aP) × Int × Int × List (Bool)->Option ((List Int × Bool) × List (Bool))):ahC PG (K8 q) 207 K7 (K6.ht 68) (.mt 4 4 0)=some (K6.wc (K8 q),[10,11]):=by kernel_rfl
theorem TB:∀d:Nat,(Zq d).Ok PG 207
 | 0=>fun _ _ _ h=>by cases h
 | d+1=>aO (ae Cy (ae (TB d) (ay PG))) (apH _) (by kernel_rfl)
theorem apI (q:Int × (List aP) × Int × Int × List (Bool)->Option ((List Int × Bool) × List (Bool))) (n) (a0) (a1) (a2) (a3) (a4):K9 q n (a0,a1,a2,a3,a4) =
 bnd a4.length a2 fun n0=>
 a4[n0]?.bind fun y1=>
 (aJ n (X:=(List Int) × (List (Bool)) × Int) (B:=((List Int) × (List (Bool))) ⊕ ((List Int) × Bool × (List (Bool)))) (fun self3 x2=>
  bif decide (x2.2.2<a0) then
   ((bif decide (a2<x2.2.2) then
     some (a2,x2.2.2)
    else some (x2.2.2,a2)).bind fun x4=>
    (bif decide (x2.2.2=a3) then
     some true
     else (vY (a1,x4)).bind fun r5=>
     some !r5.1).bind fun x6=>
    bif x6 then
     some (Sum.inl (x2.1,x2.2.1))
    else bnd x2.2.1.length x2.2.2 fun n7=>
    x2.2.1[n7]?.bind fun y8=>
    bif y8 then
     some (Sum.inr (x2.1,true,x2.2.1))
    else (q (a0,a1,x2.2.2,a2,x2.2.1)).bind fun r9=>
    bif r9.1.2 then
     some (Sum.inr (x2.1,true,r9.2))
    else bif decide (x2.1.length+r9.1.1.length<=4294967296) then
     bif decide ((x2.1++r9.1.1).length+[a2].length<=4294967296) then
      some (Sum.inl ((x2.1++r9.1.1)++[a2],r9.2))
     else none
    else none:Option (((List Int) × (List (Bool))) ⊕ ((List Int) × Bool × (List (Bool))))).bind fun y=>match y with
   | .inl x10=>
    self3 (x10.1,x10.2,IntKind.wrap .i64 (x2.2.2+1))
   | .inr x10=>
    some (Sum.inr (x10.1,x10.2.1,x10.2.2))
  else some (Sum.inl (x2.1,x2.2.1))) ([a2],a4.set n0 true,(0:Int))).bind fun y=>match y with
 | .inl x11=>
  some ((x11.1,false),x11.2)
 | .inr x11=>
  some ((x11.1,x11.2.1),x11.2.2):=by kernel_rfl
def ad6:TC:=
 (zS [yu 6,bz 7] (zQ (.seq (.join [⟨20,[.b],false⟩] 2095104 none (zR [au 11 0,oZ 12 42 11 12,Jw 13 12 2 3,jH 16 0 3,zEr 17 16 3,zEs 42 15 0 17 18 18 3,tN 19 18 3 14])) (zC 20 (zS [Tc 21 6,bz 7] .ret) .skip)) (zQ (.join [] 68715282880 (some [⟨6,[.sl [.i .i64]],false⟩,⟨7,[.b],false⟩]) (zS [bK 8] (.block 0 (.loop [⟨8,[.i .i64],false⟩] 68715282880 (zQ (zS [BR 22 8 1] (zC 25 .skip (.exit 0))) (zQ (.block 1 (zS [df 28 0 1,au 30 8,kN 31 29 30 2 2,jI 33 128 28 32,jN 34 33] (zC 34 (zS [Tc 35 6,bz 7] .ret) .skip))) (zR [gY 26 8 8]))))))) (zS [df 37 0 1,df 39 2 0,[o1 41 (.make (.t 40) [.b]),⟨false,[],[],.call 2 207 [.t 37,.t 38,.t 39,kO (-1),.t 41] (.mt 41 [] 0 41 4),[42,41],(some 42),none⟩],DR 42 36 42 1 1,dC 43 9 43,au 10 44] (zQ (zS [au 45 10] (zC 45 (zS [Tc 46 6,bz 7] .ret) .skip)) (zS [tO 9 47 9 6,gX 7] .ret))))))
def ad7:aL:=⟨[.rd false [.d],.rd false iG,.rd false [.d]],(.tup [(false,1),(false,1)] apd)⟩
def ad8:aK:=aD [(42,fH),(128,A7),(207,Zq 64)]
def OW (n:Nat):Int × (List aP) × Int->Option ((List Int × Bool) × Unit):=aH n ad8 ad6 [[.i .i64],[.sl [.i .i64,.i .i64]],[.i .i64]] [.sl [.i .i64],.b] [] [6,7] .no
def Gm:=OW BIG
def ad9:TSp:=⟨ad7,[[.i .i64],[.sl [.i .i64,.i .i64]],[.i .i64]],[.sl [.i .i64],.b],[],Ou.j .no,Gm⟩
theorem atc:zK ad8 205 ad7 ad6 48 .no [6,7]:=by show _=_;kernel_rfl
theorem apJ:ad9.Ok PG 205:=aO (ae eU (ae Cu (ae (TB 64) (ay PG)))) atc (by kernel_rfl)
theorem atd (n) (a0) (a1) (a2):OW n (a0,a1,a2) = ((bE (a0,(1:Int),(12:Int))).bind fun r0=> bif !r0.1 then some true else (bE (a2,(0:Int),IntKind.wrap .i64 (a0-1))).bind fun r1=> some !r1.1).bind fun x2=> bif x2 then some (([],false),()) else (aJ n (X:=Int) (B:=(Unit) ⊕ ((List Int) × Bool)) (fun self4 x3=> bif decide (x3<(a1.length:Int)) then bnd a1.length x3 fun n5=> a1[n5]?.bind fun y6=> (vX (a0,y6)).bind fun r7=> bif !r7.1 then some (Sum.inr ([],false)) else self4 (IntKind.wrap .i64 (x3+1)) else some (Sum.inl ())) (0:Int)).bind fun y=>match y with | .inl x8=> bif decide (0<=a0) then bif decide ((Int.toNat a0)<=4294967296) then (xC 64 (a0,a1,a2,(-1:Int),List.replicate (Int.toNat a0) false)).bind fun r9=> bif r9.1.2 then some (([],false),()) else some ((r9.1.1,true),()) else none else none | .inr x8=> some (x8,()):=by kernel_rfl
def TD:TC:=
 (zS [dK 2 0,zHb 4 1000000005,bz 5] (zS [bO 12 2 0,[o1 14 (.build tZ [(0,.t 13)])],zHb 6 1000000007,zHc 14 6 14 6 14 14] (zS [dM 15 2 2,au 16 1,zMx 17 203 15 16 7] (zQ (zS [bO 18 2 0,oZ 20 42 19 12,jN 21 20] (zC 21 (zS [[o1 22 (.build tZ [])],zHc 22 4 22 4 22 22,bz 5] .ret) .skip)) (zS [Tc 23 8] (zQ (.join [⟨4,tZ,false⟩,⟨6,tZ,false⟩] 9007199237967728 (some [⟨4,tZ,false⟩,⟨5,[.b],false⟩]) (zS [bK 9] (.block 0 (.loop [⟨4,tZ,false⟩,⟨6,tZ,false⟩,⟨8,[.sl [.i .i64]],false⟩,⟨9,[.i .i64],false⟩] 9007199237967728 (zQ (zS [SN 24 9 2 0,gy 27 24 26] (zC 27 .skip (.exit 0))) (zQ (.join [⟨4,tZ,false⟩,⟨6,tZ,false⟩,⟨8,[.sl [.i .i64]],false⟩] 9007198181002608 (some [⟨4,tZ,false⟩,⟨5,[.b],false⟩]) (.block 1 (zQ (zS [FV 30 8 9,jI 32 204 30 31] (zC 32 (.exit 1) .skip)) (zS [bO 34 2 0,FV 36 7 9,DL 38 205 35 36 37,DR 38 33 38 1 1,dC 39 10 39,au 11 40] (zQ (zS [au 41 11,jN 42 41] (zC 42 (zS [[o1 43 (.build tZ [])],zHc 43 4 43 4 43 43,bz 5] .ret) .skip)) (zS [uq 44 6 1,zHd 10 10 46 10 46,[o1 47 (.sli [.sl [.i .i64]] [.t 46])],Yv 45 45 47 48 45 45 6 48 6 6 1] (zR [Yt 8 50 8 30 50,au 51 10,yw 50 51 52 50,Yt 52 8 52 30 8]))))))) (zR [gY 28 9 9]))))))) (zS [w9 53 6 2 4 4 6,gX 5] .ret)))))))
def TF:aL:=⟨[.rd true nE,.rd false [.d]],(.tup [(true,2),(false,1)] [.d,.sl (.own none) [.sl (.ro []) [.d]],.d])⟩
def TG:aK:=aD [(203,Zo),(42,fH),(204,vg),(205,ad9)]
def Ia (n:Nat):eB × Int->Option ((Int × List (List Int) × Bool) × Unit):=aH n TG TD [bH,[.i .i64]] [.i .i64,.sl [.sl [.i .i64]],.b] [] [4,5] .no
def qy:=Ia BIG
def uw:TSp:=⟨TF,[bH,[.i .i64]],[.i .i64,.sl [.sl [.i .i64]],.b],[],Ou.j .no,qy⟩
theorem akW:zK TG 182 TF TD 54 .no [4,5]:=by show _=_;kernel_rfl
theorem xD:uw.Ok PG 182:=aO (ae akV (ae eU (ae vZ (ae apJ (ay PG))))) akW (by kernel_rfl)
theorem akX (n) (a0) (a1):Ia n (a0,a1) =
 (K5 (a0,a1)).bind fun r0=>
 (bE (a0.1,(1:Int),(12:Int))).bind fun r1=>
 bif !r1.1 then
  some (((0:Int),[],false),())
 else (aJ n (X:=HV × HV × (List Int) × Int) (B:=(HV × HV) ⊕ (HV × Bool)) (fun self3 x2=>
  bif decide (x2.2.2.2<a0.1) then
   ((jP (x2.2.2.1,x2.2.2.2)).bind fun r4=>
    bif r4.1 then
     some (Sum.inl (x2.1,x2.2.1,x2.2.2.1))
    else (Gm (a0.1,r0.1,x2.2.2.2)).bind fun r5=>
    bif !r5.1.2 then
     some (Sum.inr (((0:Int),[]),false))
    else bif decide (x2.2.1.2.length+[r5.1.1].length<=4294967296) then
     bif decide (x2.2.2.1.length+r5.1.1.length<=4294967296) then
      some (Sum.inl (x2.1,(x2.2.1.1,x2.2.1.2++[r5.1.1]),x2.2.2.1++r5.1.1))
     else none
    else none:Option ((HV × HV × (List Int)) ⊕ (HV × Bool))).bind fun y=>match y with
   | .inl x6=>
    self3 (x6.1,x6.2.1,x6.2.2,IntKind.wrap .i64 (x2.2.2.2+1))
   | .inr x6=>
    some (Sum.inr (x6.1,x6.2))
  else some (Sum.inl (x2.1,x2.2.1))) (((0:Int),[]),(a0.1,[]),[],(0:Int))).bind fun y=>match y with
 | .inl x7=>
  some ((x7.2.1,x7.2.2,true),())
 | .inr x7=>
  some ((x7.1.1,x7.1.2,x7.2),()):=by kernel_rfl
def Zr:TC:=
 (zS [yu 2] (zS [zBa 5,dC 5 3 5] (zQ (.join [⟨3,[.sl [.i .i64]],false⟩] 131032 none (zS [bK 4] (.block 0 (.loop [⟨3,[.sl [.i .i64]],false⟩,⟨4,[.i .i64],false⟩] 131032 (zQ (zS [au 6 4,[o1 7 (.data (.bin .lss) [.t 6,kD 12])]] (zC 7 .skip (.exit 0))) (zQ (.join [⟨3,[.sl [.i .i64]],false⟩] 130056 none (.block 1 (zS [df 10 0 4,jI 12 204 10 11] (zC 12 (zR [dC 3 13 3,au 14 4,Jo 15 14,MM 13 15 16 13 3]) .skip)))) (zR [au 8 4,BK 9 8,au 4 9]))))))) (zS [tO 3 17 3 2] .ret))))
def Zt:aL:=⟨[.rd false fF],(.one false fF)⟩
def Zu:aK:=aD [(204,vg)]
def K_ (n:Nat):List (Int)->Option ((List Int) × Unit):=aH n Zu Zr [[.sl [.i .i64]]] [.sl [.i .i64]] [] [2] .no
def kH:=K_ BIG
def xE:TSp:=⟨Zt,[[.sl [.i .i64]]],[.sl [.i .i64]],[],Ou.j .no,kH⟩
theorem apK:zK Zu 186 Zt Zr 18 .no [2]:=by show _=_;kernel_rfl
theorem Ab:xE.Ok PG 186:=aO (ae vZ (ay PG)) apK (by kernel_rfl)
theorem apL (n) (a0):K_ n a0 = (aJ n (X:=(List Int) × Int) (B:=(List Int)) (fun self1 x0=> bif decide (x0.2<12) then ((jP (a0,x0.2)).bind fun r2=> bif r2.1 then bif decide (x0.1.length+[x0.2].length<=4294967296) then some (x0.1++[x0.2]) else none else some x0.1:Option ((List Int))).bind fun x3=> self1 (x3,IntKind.wrap .i64 (x0.2+1)) else some x0.1) ([],(0:Int))).bind fun x4=> some (x4,()):=by kernel_rfl
def Zv:TC:=
 (zS [bz 2] (zS [au 6 0,zHf 7 6,Yo 8 6 1 7,Jo 9 8,dC 9 3 9] (zS [au 10 0,zHf 11 10,Yo 12 10 1 11,Jo 13 12,dC 13 4 13] (zQ (.join [⟨3,[.sl [.i .i64]],false⟩] 2305843009213677628 (some [⟨2,[.b],false⟩]) (zS [nU 5 1] (.block 0 (.loop [⟨3,[.sl [.i .i64]],false⟩,⟨4,[.sl [.i .i64]],false⟩,⟨5,[.i .i64],false⟩] 2305843009213677628 (zQ (zS [BR 14 5 0] (zC 17 .skip (.exit 0))) (zQ (.join [⟨3,[.sl [.i .i64]],false⟩,⟨4,[.sl [.i .i64]],false⟩] 2305843009212645404 (some [⟨2,[.b],false⟩]) (.block 1 (zQ (.seq (.join [⟨35,[.b],false⟩] 68718428160 none (zR [gN 20 3,l9 21 20,Yn 22 21 1,BS 23 22 0 3,iE 25 5 3,qW 26 24 25 3,BN 27 24 1 26 3,SL 3 28 28 3,SL 3 29 29 3,zHh 30 29 3,[o2 31 (.data (.bin .sub) [.t 30,kD 2]) 3 true],qW 32 28 31 3,BN 33 3 1 32 3,DK 34 27 33 3,oW 23 34 35])) (zC 35 (zS [gN 36 3,gN 37 3,l9 38 37,yz 39 38,[⟨true,[36],[],.det 2 (.res 36 none (some (.t 39))),[40,36,36,3,20,37],(some 40),none⟩,⟨false,[],[],.det 2 (.copy 40),[3,40,20,37,36],(some 3),none⟩]] (.exit 1)) .skip)) (zQ (zS [gN 41 4,SS 42 0 5 1,jI 46 204 41 45] (zC 46 (zS [bz 2] .ret) .skip)) (zS [Yt 4 47 4 41 47,SS 48 0 5 1,Jo 52 51,yw 47 52 53 47,Yt 53 4 53 41 4] (zR [Yt 3 54 3 20 54,SS 55 0 5 1,Jo 59 58,yw 54 59 60 54,Yt 60 3 60 20 3])))))) (zR [gY 18 5 5]))))))) (zS [dC 3 61 3,l9 62 61,yF 63 62 1 2] .ret)))))
def Zw:aL:=⟨[.rd false fF],(.one false [.d])⟩
def Zx:aK:=aD [(204,vg)]
def La (n:Nat):List (Int)->Option ((Bool) × Unit):=aH n Zx Zv [[.sl [.i .i64]]] [.b] [] [2] .no
def Lb:=La BIG
def Zy:TSp:=⟨Zw,[[.sl [.i .i64]]],[.b],[],Ou.j .no,Lb⟩
theorem apM:zK Zx 209 Zw Zv 64 .no [2]:=by show _=_;kernel_rfl
theorem akY:Zy.Ok PG 209:=aO (ae vZ (ay PG)) apM (by kernel_rfl)
theorem apN (n) (a0):La n a0 =
 bnd a0.length (0:Int) fun n0=>
 a0[n0]?.bind fun y1=>
 bnd a0.length (0:Int) fun n2=>
 a0[n2]?.bind fun y3=>
 (aJ n (X:=(List Int) × (List Int) × Int) (B:=((List Int)) ⊕ (Bool)) (fun self5 x4=>
  bif decide (x4.2.2<(a0.length:Int)) then
   ((bif decide (1<(x4.1.length:Int)) then
     bnd a0.length x4.2.2 fun n6=>
     a0[n6]?.bind fun y7=>
     bnd x4.1.length (IntKind.wrap .i64 ((x4.1.length:Int)-2)) fun n8=>
     x4.1[n8]?.bind fun y9=>
     some (decide (y7=y9))
    else some false).bind fun x10=>
    bif x10 then
     bif decide (0<=(IntKind.wrap .i64 ((x4.1.length:Int)-1))) then
      bif decide (0<=(Int.toNat (IntKind.wrap .i64 ((x4.1.length:Int)-1)))/\(Int.toNat (IntKind.wrap .i64 ((x4.1.length:Int)-1)))<=x4.1.length) then
       some (Sum.inl (List.take ((Int.toNat (IntKind.wrap .i64 ((x4.1.length:Int)-1)))-0) (List.drop 0 x4.1),x4.2.1))
      else none
     else none
    else bnd a0.length x4.2.2 fun n11=>
    a0[n11]?.bind fun y12=>
    (jP (x4.2.1,y12)).bind fun r13=>
    bif r13.1 then
     some (Sum.inr false)
    else bnd a0.length x4.2.2 fun n14=>
    a0[n14]?.bind fun y15=>
    bif decide (x4.2.1.length+[y15].length<=4294967296) then
     bnd a0.length x4.2.2 fun n16=>
     a0[n16]?.bind fun y17=>
     bif decide (x4.1.length+[y17].length<=4294967296) then
      some (Sum.inl (x4.1++[y17],x4.2.1++[y15]))
     else none
    else none:Option (((List Int) × (List Int)) ⊕ (Bool))).bind fun y=>match y with
   | .inl x18=>
    self5 (x18.1,x18.2,IntKind.wrap .i64 (x4.2.2+1))
   | .inr x18=>
    some (Sum.inr x18)
  else some (Sum.inl x4.1)) ([y1],[y3],(1:Int))).bind fun y=>match y with
 | .inl x19=>
  some (decide ((x19.length:Int)=1),())
 | .inr x19=>
  some (x19,()):=by kernel_rfl
def ad_:TC:=
 (zS [bz 2] (zQ (zS [w_ 4 0 4,oZ 6 42 5 23,jN 7 6] (zC 7 (zS [bz 2] .ret) .skip)) (zQ (.join [] 1048332 (some [⟨2,[.b],false⟩]) (zS [bK 3] (.block 0 (.loop [⟨3,[.i .i64],false⟩] 1048332 (zQ (zS [df 8 3 0,yA 10 9 8] (zC 11 .skip (.exit 0))) (zQ (.block 1 (zS [SS 14 0 3 1,[o3 18 42 [.t 17,kO 0,kO 11]],jN 19 18] (zC 19 (zS [bz 2] .ret) .skip))) (zR [gY 12 3 3]))))))) (zS [au 20 0,gz 21 209 20,au 2 21] .ret))))
def aea:aL:=⟨[.rd false fF],(.one false [.d])⟩
def aeb:aK:=aD [(42,fH),(209,Zy)]
def OZ (n:Nat):List (Int)->Option ((Bool) × Unit):=aH n aeb ad_ [[.sl [.i .i64]]] [.b] [] [2] .no
def O0:=OZ BIG
def aec:TSp:=⟨aea,[[.sl [.i .i64]]],[.b],[],Ou.j .no,O0⟩
theorem ate:zK aeb 208 aea ad_ 22 .no [2]:=by show _=_;kernel_rfl
theorem apO:aec.Ok PG 208:=aO (ae eU (ae akY (ay PG))) ate (by kernel_rfl)
theorem atf (n) (a0):OZ n a0 = (bE ((a0.length:Int),(1:Int),(23:Int))).bind fun r0=> bif !r0.1 then some (false,()) else (aJ n (X:=Int) (B:=(Unit) ⊕ (Bool)) (fun self2 x1=> bif decide (x1<(a0.length:Int)) then bnd a0.length x1 fun n3=> a0[n3]?.bind fun y4=> (bE (y4,(0:Int),(11:Int))).bind fun r5=> bif !r5.1 then some (Sum.inr false) else self2 (IntKind.wrap .i64 (x1+1)) else some (Sum.inl ())) (0:Int)).bind fun y=>match y with | .inl x6=> (Lb a0).bind fun r7=> some (r7.1,()) | .inr x6=> some (x6,()):=by kernel_rfl
end
end Go.Fw
