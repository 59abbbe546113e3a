/- The given functions, as what they compute; each is shown to be what the code does. No conditions. -/
import Derived.Test.YtbdciplhpomakaaGreatG5
import Derived.Test.YtbdciplhpomakaaGreatProg
set_option linter.unusedVariables false
set_option linter.unusedSimpArgs false
set_option linter.unusedSectionVars false
namespace Go.Fw
noncomputable abbrev PG:=Go.Proofs.Tryz.prog
def o2 (d:Nat) (e:ED) (j:Nat) (b:Bool):TO:=⟨false,[],[],.det 1 e,[d],some d,some (j,b)⟩
def o3 (d:Nat) (K:FuncId) (gets:List OY):TO:=⟨false,[],[],.call 1 K gets .no,[d],some d,none⟩
def o4 (n:Nat) (ds:List Nat) (e:ED):TO:=⟨false,[],[],.det n e,ds,none,none⟩
abbrev Jz : List TY := [.i .i64, .sl [.i .i64], .sl [.i .i64, .i .i64], .sl [.sl [.i .i64]], .sl [.i .i64], .i .i64, .i .i64, .i .i64, .i .i64, .i .i64, .i .i64, .i .i64, .sl [.i .i64, .i .i64], .i .i64, .sl [.i .i64, .i .i64, .i .i64, .i .i64, .i .i64, .i .i64], .sl [.i .i64, .i .i64, .sl [.i .i64, .i .i64, .i .i64, .b], .i .i64, .b, .sl [.i .i64, .i .i64], .sl [.i .i64]]]
abbrev Xu : List TY := [.i .i64, .sl [.i .i64], .sl [.i .i64, .i .i64], .sl [.sl [.i .i64]], .sl [.i .i64], .i .i64, .i .i64, .i .i64, .i .i64, .i .i64, .i .i64, .i .i64, .sl [.i .i64, .i .i64], .i .i64, .sl [.i .i64, .i .i64, .i .i64, .i .i64, .i .i64, .i .i64], .i .i64]
abbrev bu : List TY := [.i .i64, .sl [.i .i64], .sl [.i .i64, .i .i64], .sl [.sl [.i .i64]], .sl [.i .i64], .i .i64, .i .i64, .i .i64, .i .i64, .i .i64, .i .i64, .i .i64, .sl [.i .i64, .i .i64], .i .i64, .sl [.i .i64, .i .i64, .i .i64, .i .i64, .i .i64, .i .i64]]
abbrev Ty3 : List TY := [.i .i64, .i .i64, .sl [.i .i64, .i .i64, .i .i64, .b], .i .i64, .b, .sl [.i .i64, .i .i64], .sl [.i .i64], .i .i64, .b, .sl [.i .i64, .i .i64], .sl [.i .i64], .i .i64]
abbrev Ty4 : List TY := [.sl [.i .i64, .i .i64, .sl [.i .i64, .i .i64, .i .i64, .b], .i .i64, .b, .sl [.i .i64, .i .i64], .sl [.i .i64]]]
abbrev fQ : List TY := [.i .i64, .i .i64, .sl [.i .i64, .i .i64, .i .i64, .b], .i .i64, .b, .sl [.i .i64, .i .i64], .sl [.i .i64]]
abbrev Km : List TY := [.i .i64, .i .i64, .i .i64, .i .i64, .i .i64, .i .i64, .i .i64, .sl [.i .i64, .i .i64], .i .i64]
abbrev Ty7 : List TY := [.i .i64, .sl [.i .i64, .i .i64, .i .i64, .b], .i .i64, .i .i64, .b, .b]
abbrev Xv : List TY := [.sl [.i .i64, .i .i64, .i .i64, .i .i64, .i .i64, .i .i64]]
abbrev Xw : List TY := [.i .i64, .i .i64, .i .i64, .i .i64, .i .i64, .i .i64]
abbrev eX : List TY := [.i .i64, .b, .sl [.i .i64, .i .i64], .sl [.i .i64]]
abbrev ib : List TY := [.i .i64, .i .i64, .sl [.i .i64, .i .i64], .i .i64]
abbrev Vz : List TY := [.i .i64, .sl [.i .i64, .i .i64, .i .i64, .b], .b]
abbrev bz : List TY := [.i .i64, .sl [.i .i64, .i .i64, .i .i64, .b]]
abbrev VA : List TY := [.i .i64, .sl [.i .i64, .i .i64], .b]
abbrev kK : List TY := [.sl [.i .i64, .i .i64, .i .i64, .b]]
abbrev dD : List TY := [.i .i64, .i .i64, .i .i64, .i .i64]
abbrev eH : List TY := [.i .i64, .sl [.i .i64, .i .i64]]
abbrev fO : List TY := [.sl [.i .u8], .i .i64, .i .i64]
abbrev kM : List TY := [.i .i64, .i .i64, .i .i64, .b]
abbrev nR : List TY := [.i .i64, .sl [.sl [.i .i64]]]
abbrev Ct0:List CT:=[.d,.sl (.own none) [.d],.sl (.own none) [.d,.d],.sl (.own none) [.sl (.own none) [.d]],.sl (.own none) [.d],.d,.d,.d,.d,.d,.d,.d,.sl (.own none) [.d,.d],.d,.sl (.own none) [.d,.d,.d,.d,.d,.d],.d]
abbrev kN:List CT:=[.d,.sl (.own none) [.d],.sl (.own none) [.d,.d],.sl (.own none) [.sl (.own none) [.d]],.sl (.own none) [.d],.d,.d,.d,.d,.d,.d,.d,.sl (.own none) [.d,.d],.d,.sl (.own none) [.d,.d,.d,.d,.d,.d]]
abbrev EU:List CT:=[.d,.d,.sl (.own none) [.d,.d,.d,.d],.d,.d,.sl (.own none) [.d,.d],.sl (.own none) [.d]]
abbrev JA:List CT:=[.d,.d,.sl (.own none) [.d,.d],.sl (.own none) [.d]]
abbrev Ct4:List CT:=[.d,.d,.d,.d,.d,.d,.d,.sl (.own none) [.d,.d],.d]
abbrev Ct5:List CT:=[.d,.sl (.own none) [.d,.d,.d,.d],.d]
abbrev Ct6:List CT:=[.sl (.own none) [.d,.d,.d,.d,.d,.d]]
abbrev qx:List CT:=[.d,.sl (.own none) [.d,.d,.d,.d]]
abbrev Kn:List CT:=[.d,.d,.sl (.own none) [.d,.d],.d]
abbrev Ct9:List CT:=[.d,.sl (.own none) [.d,.d],.d]
abbrev wN:List CT:=[.d,.sl (.own none) [.d,.d]]
abbrev fJ:List CT:=[.sl (.own none) [.d,.d]]
abbrev agj:List CT:=[.sl (.own none) [.d],.d]
abbrev dY:List CT:=[.sl (.own none) [.d]]
abbrev aau:List CT:=[.d,.d,.d,.d,.d,.d]
def oc (d s:Nat):TO:=o1 d (.copy s)
def oi (d:Nat):TO:=o1 d (.idx .nil)
def o5 (e:ED) (d x:Nat):TO:=⟨false,[],[],.det 2 e,[d,x],some d,none⟩
def o6 (d s:Nat):TO:=⟨true,[],[],.det 1 (.copy s),[d],some d,none⟩
def o7 (a:Nat) (x y:DX) (d:Nat):TO:=⟨false,[],[],.pick a x y,[d],some d,none⟩
abbrev kV (n:Int):Value:=.int .i64 n
abbrev kO (n:Int):OY:=.c [.i .i64] [kV n]
abbrev kD (n:Int):DX:=.c (kV n)
abbrev kL (n:Int):ED:=.lit [.i .i64] [kV n]
abbrev iI:TY:=.i .i64
def zS (l:List (List TO)) (c:TC):TC:=.seq (.rg l.flatten) c
def zR (l:List (List TO)):TC:=.rg l.flatten
def zQ (a b:TC):TC:=.seq a b
def zC (x:Nat) (a b:TC):TC:=.cond (.t x) a b
def a_ (a:Nat):List TO:=[o1 a (.lit [.b] [.bool false])]
def af (a b:Nat):List TO:=[oc a b]
def dW (a b:Nat):List TO:=[o1 a (.len b)]
def zAd (a b:Nat)(c:Int):List TO:=[o1 a (.data (.bin .gtr) [.t b,kD c])]
def zAe (a:Nat)(b:Int)(c:Nat):List TO:=[o1 a (.data (.bin .add) [kD b,.t c])]
def bC (a:Nat):List TO:=[o1 a (kL 0)]
def d_ (a b c:Nat):List TO:=[o1 a (.data (.bin .lss) [.t b,.t c])]
def cK (a b c:Nat):List TO:=[o2 a (.copy b) c true]
def zAi (a b:Nat)(c:Int)(d:Nat):List TO:=[o2 a (.data (.bin .lss) [.t b,kD c]) d true]
def lC (a b c:Nat):List TO:=[o7 a (.t b) (.c (.bool false)) c]
def zAk (a b:Nat)(c:Int):List TO:=[o1 a (.data (.bin .mul) [.t b,kD c])]
def jy (a b c:Nat):List TO:=[o1 a (.index b (.t c))]
def yT (a b c d:Nat):List TO:=[o1 a (.load b [(0,c)] 0 (.t d) 1 false)]
def zAo (a b c:Nat):List TO:=[o1 a (.data (.bin .add) [.t b,.t c])]
def zAp (a b:Nat)(c:Int):List TO:=[o1 a (.data (.bin .and) [.t b,kD c])]
def Be (a b:Nat):List TO:=[o1 a (.data (.bin .add) [.t b,kD 1])]
def bM (a b:Nat):List TO:=[o1 a (.a (.t b))]
def bQ (a:Nat):List TO:=[o1 a (.p0)]
def qy (a b:Nat):List TO:=[o1 a (.same b)]
def yU (a b:Nat):List TO:=[o1 a (.idx (.t b))]
def iR (a b c d:Nat):List TO:=[o1 a (.load b [] c (.t d) 1 false)]
def Bf (a b c d e:Nat):List TO:=[o4 1 [a] (.store b [] c (.t d) (.t e))]
def zAx (a b c:Nat):List TO:=[o1 a (.data (.bin .shr) [.t b,.c (.int .u64 (c))])]
def zAy (a b:Nat)(c:Int):List TO:=[o1 a (.data (.bin .leq) [.t b,kD c])]
def zAz (a b c:Nat):List TO:=[⟨false,[],[],.call 2 a [.t 0] (.mp 0),[b,0],(some c),none⟩]
def zAA (a b c:Nat):List TO:=[o1 a (.data (.bin .rem) [.t b,.t c])]
def zAB (a:Int)(b c:Nat):List TO:=[⟨false,[],[],.call 2 112 [.t 0,kO a] (.mp 0),[b,0],(some c),none⟩]
def zAC (a b c:Nat):List TO:=[o1 a (.data (.bin .geq) [.t b,.t c])]
def zAD:List TO:=[o2 13 (.data (.bin .leq) [.t 11,.t 12]) 3 true]
def tT (a:Nat):List TO:=[o1 a (.lit [.sl [.i .i64]] [.slice none 0 0])]
def v_ (a:Nat):List TO:=[o1 a (.sli [.i .i64] [])]
def bH (a b c:Nat):List TO:=[o5 (.copy a) b c]
def Ko (a b:Nat):List TO:=[o1 a (.sli [.i .i64] [.t b])]
def wh (a b c d:Nat):List TO:=[o5 (.app (some a) b) c d]
def cO (a b:Nat):List TO:=[o6 a b]
def OD (a b c d e:Nat):List TO:=[o1 a (.load b [(0,c)] d (.t e) 1 false)]
def zBg (a b c d e f g h:Nat):List TO:=[o4 1 [a,b] (.store c [(d,e)] f (.t g) (.t h))]
def rC (a b:Nat):List TO:=[o5 (.a (.c bu [kV 0,.slice none 0 0,.slice none 0 0,.slice none 0 0,.slice none 0 0,kV 0,kV 0,kV 0,kV 0,kV 0,kV 0,kV 0,.slice none 0 0,kV 0,.slice none 0 0])) a b]
def lD (a b c:Nat)(d:Int):List TO:=[o3 a b [.t c,kO 1,kO d]]
def gX (a b:Nat):List TO:=[o1 a (.data .not [.t b])]
def dw (a b c:Nat):List TO:=[o2 a (.copy b) c false]
def Kq (a b:Nat)(c:Int)(d e f:Nat):List TO:=[⟨false,[],[],.call 1 a [.t b,kO 1,kO c] .no,[d],(some e),some (f,false)⟩]
def zBn (a b c:Nat):List TO:=[o2 a (.data .not [.t b]) c false]
def mK (a b c:Nat):List TO:=[o7 a (.c (.bool true)) (.t b) c]
def ek (a b c d:Nat):List TO:=[o4 2 [a,b] (.store c [] 0 .nil (.t d))]
def bO (a:Nat):List TO:=[oi a]
def zBr (a b c d:Nat):List TO:=[o1 a (.load b [] c (.t d) 1 true)]
def Kr (a b c d e f g h:Nat):List TO:=[⟨false,[a],[],.det 2 (.app (some b) c),[d,e,f,g],(some h),none⟩]
def rD (a b c d e f g:Nat):List TO:=[o4 2 [a,b,c] (.store d [] e (.t f) (.t g))]
def S9 (a:Nat):List TO:=[o1 a (.sli [.i .i64,.i .i64] [])]
def fG (a b c d:Nat):List TO:=[o3 a b [.t c,.t d]]
def zBw (a b c:Nat):List TO:=[o5 (.sli [.sl [.i .i64]] [.t a]) b c]
def zBx (a b c d e f g h i:Nat):List TO:=[⟨false,[a],[],.det 3 (.app (some b) c),[d,e,f,g,h],(some i),none⟩]
def gI (a b c:Nat):List TO:=[o1 a (.load b [] 0 .nil c true)]
def Bg (a b c d e f g:Nat):List TO:=[⟨false,[a],[],.det 2 (.store b [] 0 .nil (.t c)),[d,e,f,g],none,none⟩]
def gu (a:Nat):List TO:=[o1 a (.lit [.b] [.bool true])]
def EW (a b:Nat):List TO:=[o5 (.a (.c bz [kV 0,.slice none 0 0])) a b]
def zBC (a:Nat):List TO:=[o1 a (.build bz [])]
def zBD (a b:Nat):List TO:=[o1 a (.build bz [(0,.t b)])]
def zBE (a b:Nat):List TO:=[o5 (.a (.c fQ [kV 0,kV 0,.slice none 0 0,kV 0,.bool false,.slice none 0 0,.slice none 0 0])) a b]
def dH (a b c:Nat):List TO:=[o3 a b [.t c]]
def zDb (a b c d:Nat):List TO:=[o5 (.ext a 0 b) c d]
def yV (a b c:Nat):List TO:=[o1 a (.ext b c 1)]
def zDd (a:Nat):List TO:=[o1 a (.build fQ [])]
def iq (a:Nat)(b:Int):List TO:=[o1 a (kL b)]
def zDf (a b:Nat)(c:Int):List TO:=[o1 a (.data (.bin .neq) [.t b,kD c])]
def Bh (a b:Nat):List TO:=[o5 (.a (.c eH [kV 0,.slice none 0 0])) a b]
def zDh (a b:Nat):List TO:=[o1 a (.build eH [(0,.t b)])]
def JB (a b c:Nat):List TO:=[o1 a (.build [.i .i64,.i .i64] [(0,.t b),(1,.t c)])]
def Xx (a b:Nat):List TO:=[o1 a (.sli [.i .i64,.i .i64] [.t b])]
def jA (a b:Nat):List TO:=[o2 a (.idx .nil) b true]
def l6 (a b c d e:Nat):List TO:=[o2 a (.load b [] c (.t d) 1 false) e true]
def EX (a b c:Nat):List TO:=[o2 a (.data (.bin .sub) [.t b,kD 1]) c true]
def Xy (a b c d e f:Nat):List TO:=[⟨false,[],[],.call 1 a [.t b,kO 0,.t c] .no,[d],(some e),some (f,true)⟩]
def zDp (a b c d:Nat):List TO:=[o2 a (.data (.bin .lss) [.t b,.t c]) d true]
def qz (a b:Nat):List TO:=[o2 a (.idx .nil) b false]
def Bi (a b c d e:Nat):List TO:=[o2 a (.load b [] c (.t d) 1 false) e false]
def zDs (a b c d:Nat):List TO:=[o2 a (.data (.bin .eql) [.t b,.t c]) d false]
def zDt (a b c d e:Nat):List TO:=[⟨false,[],[],.pick a (.t b) (.c (.bool false)),[c],(some d),some (e,false)⟩]
def JC (a b c d e:Nat):List TO:=[o1 a (.load b [(0,c)] 0 (.t d) e false)]
def Xz (a b:Nat)(c:Int)(d:Nat):List TO:=[o2 a (.data (.bin .gtr) [.t b,kD c]) d false]
def kT (a b c d:Nat):List TO:=[o2 a (.index b (.t c)) d true]
def zDx (a b c d e f:Nat):List TO:=[o2 a (.load b [(0,c)] 0 (.t d) e false) f true]
def l7 (a b c d e f:Nat):List TO:=[⟨false,[],[],.call 1 a [.t b,.t c] .no,[d],(some e),some (f,true)⟩]
def zDz (a b c:Nat):List TO:=[o2 a (.data .not [.t b]) c true]
def wm (a:Nat):List TO:=[o1 a (.lit [.sl [.i .i64,.i .i64]] [.slice none 0 0])]
def OE (a b:Nat):List TO:=[o5 (.a (.c kM [kV 0,kV 0,kV 0,.bool false])) a b]
def cZ (a b c:Nat):List TO:=[o4 1 [a] (.store b [] 0 .nil (.t c))]
def zDD (a b c d:Nat):List TO:=[o2 a (.data (.bin .geq) [.t b,.t c]) d true]
def kP (a b c:Nat):List TO:=[o1 a (.data (.bin .eql) [.t b,.t c])]
def bS (a b c:Nat):List TO:=[o1 a (.load b [] 0 .nil c false)]
def zEb (a b c d e f g:Nat):List TO:=[o4 1 [a,b] (.store c [(d,e)] f (.t g) (.c [.b] [.bool true]))]
def l8 (a b:Nat):List TO:=[o5 (.a (.c [.i .i64,.i .i64] [kV 0,kV 0])) a b]
def wu (a b c d:Nat):List TO:=[o2 a (.load b [] 0 .nil c false) d false]
def yX (a b c d e f:Nat):List TO:=[⟨false,[],[],.call 1 a [.t b,.t c] .no,[d],(some e),some (f,false)⟩]
def zEf (a b c:Nat):List TO:=[o2 a (.data (.bin .sub) [.t b,kD 1]) c false]
def zEg (a b:Nat)(c:Int)(d e f g:Nat):List TO:=[⟨false,[],[],.call 1 a [.t b,kO c,.t d] .no,[e],(some f),some (g,false)⟩]
def zEh (a b:Nat):List TO:=[o5 (.a (.c nR [kV 0,.slice none 0 0])) a b]
def zEi (a b c d e f:Nat):List TO:=[⟨false,[a],[],.det 2 (.store b [] 0 .nil (.t c)),[d,e,f],none,none⟩]
def Kt (a b c d e:Nat):List TO:=[o3 a b [.t c,.t d,.t e]]
def zEk (a b c d e:Nat):List TO:=[⟨true,[a],[],.det 1 (.copy b),[c,d],(some e),none⟩]
def S_ (a b c d e:Nat):List TO:=[⟨false,[],[],.det 2 (.copy a),[b,c,d],(some e),none⟩]
def zEn (a b:Nat)(c:Int):List TO:=[o1 a (.data (.bin .lss) [.t b,kD c])]
def zEo (a b:Nat):List TO:=[o1 a (.index b (kD 0))]
def tV (a b c d e:Nat):List TO:=[o2 a (.load b [(0,c)] 0 (.t d) 1 false) e true]
def EY (a b c d:Nat):List TO:=[⟨true,[],[],.det 1 (.copy a),[b],(some c),some (d,true)⟩]
def zEr (a b c:Nat):List TO:=[o2 a (.len b) c true]
def xu (a b c d:Nat):List TO:=[o2 a (.data (.bin .eql) [.t b,.t c]) d true]
def oh (a b:Nat):List TO:=[o1 a (.data (.bin .sub) [.t b,kD 1])]
def fV (a b:Nat)(c:Int):List TO:=[o1 a (.data (.bin .eql) [.t b,kD c])]
def OG (a b c:Nat):List TO:=[o2 a (.len b) c false]
def zEw (a b c d e:Nat):List TO:=[⟨false,[],[],.call 1 a [.t b] .no,[c],(some d),some (e,true)⟩]
def zEx (a:Nat):List TO:=[o1 a (kL (-1))]
def zEy (a b c d e:Nat):List TO:=[o1 a (.load b [(c,d)] 0 (.t e) 1 false)]
def zEz (a b c d:Nat):List TO:=[o2 a (.load b [] 0 .nil c true) d true]
def zEA (a b c d:Nat):List TO:=[o2 a (.data (.bin .neq) [.t b,.t c]) d true]
def xw (a b c:Nat):List TO:=[o1 a (.data (.bin .neq) [.t b,.t c])]
def zEC (a b c:Nat):List TO:=[o1 a (.eqA [.i,.i] (.t b) (.t c) true)]
def zED (a:Nat):List TO:=[o1 a (.build eX [])]
def OH (a b c d:Nat):List TO:=[o3 a b [.t c,kO 0,.t d]]
def Ku (a b c d:Nat):List TO:=[o2 a (.index b (.t c)) d false]
def Ta (a b c d e:Nat):List TO:=[o2 a (.load b [(0,c)] 0 (.t d) 1 false) e false]
def xy (a b c d:Nat):List TO:=[o2 a (.data (.bin .neq) [.t b,.t c]) d false]
def zGd (a b c d e:Nat):List TO:=[⟨false,[],[],.call 1 a [.t b,kO 1,kO 100000] .no,[c],(some d),some (e,true)⟩]
def zGe (a b c:Nat):List TO:=[o3 a b [.t c,kO 0]]
def zGf (a b c d e f:Nat):List TO:=[o2 a (.load b [] c (.t d) e false) f false]
def EZ (a b c d e:Nat):List TO:=[⟨false,[],[],.call 1 a [.t b] .no,[c],(some d),some (e,false)⟩]
def nK (a b c d e:Nat):List TO:=[o1 a (.load b [] c (.t d) e false)]
def rE (a b c:Nat):List TO:=[o2 a (.idx (.t b)) c false]
def ol (a b c:Nat):List TO:=[o2 a (.idx (.t b)) c true]
def zGk (a b c d e f:Nat):List TO:=[o2 a (.load b [] c (.t d) e false) f true]
def OI (a b c:Nat):List TO:=[o2 a (.data (.bin .eql) [.t b,kD 0]) c true]
def zGn (a b:Nat):List TO:=[o5 (.a (.c eX [kV 0,.bool false,.slice none 0 0,.slice none 0 0])) a b]
def Bj (a b c d:Nat):List TO:=[o4 2 [1,a] (.store 1 [] b (.t c) (.t d))]
def zGp (a:Nat):List TO:=[o1 a (.build eH [])]
def zGq (a b c d:Nat):List TO:=[o5 (.build eH [(0,.t a),(1,.t b)]) c d]
def zGr (a b c d e f:Nat):List TO:=[o2 a (.load b [(0,c)] d (.t e) 1 false) f true]
def zGs (a b:Nat):List TO:=[o1 a (.sli kM [.t b])]
def JD (a b c d e:Nat):List TO:=[⟨false,[],[a],.det 1 (.load b [] 0 .nil c false),[d],(some e),none⟩]
def XA (a b c d e:Nat):List TO:=[⟨false,[],[a],.call 1 b [.t c] .no,[d],(some e),none⟩]
def zGv (a b c d e f:Nat):List TO:=[⟨false,[],[a],.call 1 b [.t c,.t d] .no,[e],(some f),none⟩]
def zGw (a b c d e:Nat):List TO:=[⟨false,[],[a],.det 2 (.copy b),[c,d],(some e),none⟩]
def zGx (a b c d e:Nat):List TO:=[⟨false,[],[a],.det 2 (.ext b 0 2),[c,d],(some e),none⟩]
def zGy (a b c d:Nat):List TO:=[⟨false,[],[a],.det 1 (.ext b 2 1),[c],(some d),none⟩]
def XB (a b c:Nat):List TO:=[⟨false,[],[a],.det 1 (.idx .nil),[b],(some c),none⟩]
def zGA (a b c d e f:Nat):List TO:=[⟨false,[],[a],.det 1 (.load b [] c (.t d) 1 false),[e],(some f),none⟩]
def zGB (a b:Nat):List TO:=[⟨false,[],[1000000011],.det 1 (.load 8 [] 0 .nil 2 true),[a],(some b),none⟩]
def zGC (a:Nat):List TO:=[o1 a (.build [.i .i64,.i .i64] [])]
def zGD:List TO:=[⟨false,[],[3000004001],.det 1 (.lit [.b] [.bool false]),[6,4],(some 6),none⟩]
def zGE (a b:Nat):List TO:=[o1 a (.data (.bin .geq) [.t b,kD 0])]
def zHa (a b c d e:Nat):List TO:=[⟨false,[],[a],.det 1 (.index b (.t c)),[d],(some e),none⟩]
def zHb (a b c d:Nat):List TO:=[⟨false,[],[a],.det 1 (.idx (.t b)),[c],(some d),none⟩]
def zHc (a b c d e f g:Nat):List TO:=[⟨false,[],[a],.det 1 (.load b [(c,d)] 0 (.t e) 1 false),[f],(some g),none⟩]
def zHd (a b c:Nat):List TO:=[o2 a (.data (.bin .add) [.t b,kD 1]) c true]
def zHe (a b c d e:Nat):List TO:=[⟨false,[],[a,b],.det 1 (.load c [] 0 .nil 2 false),[d],(some e),none⟩]
def XC (a b c d:Nat):List TO:=[⟨false,[],[a,b],.det 1 (.idx .nil),[c],(some d),none⟩]
def zHg (a b c d e f g:Nat):List TO:=[⟨false,[],[a,b],.det 1 (.load c [] d (.t e) 1 false),[f],(some g),none⟩]
def zHh (a b c d e:Nat):List TO:=[⟨false,[],[a,b],.det 1 (.index c (kD 0)),[d],(some e),none⟩]
def zHi (a b c d e f:Nat):List TO:=[⟨false,[],[a,b],.det 1 (.load c [(0,2)] 0 (.t d) 2 false),[e],(some f),none⟩]
def zHj (a b c d e f g:Nat):List TO:=[⟨false,[],[a,b],.call 1 c [.t d,.t e] .no,[f],(some g),none⟩]
def zHk (a b c d e f:Nat):List TO:=[⟨false,[],[a,b],.det 2 (.copy c),[d,e],(some f),none⟩]
def zHm (a b c d e f g:Nat):List TO:=[⟨false,[],[a,b],.det 1 (.ext c d e),[f],(some g),none⟩]
def Tc (a b c d e f:Nat):List TO:=[⟨false,[],[a,b],.det 1 (.ext c d 1),[e],(some f),none⟩]
def zHo (a b c d:Nat):List TO:=[⟨false,[],[a],.det 2 (.a (.c bz [kV 0,.slice none 0 0])),[b,c],(some d),none⟩]
def zHp (a b c d:Nat):List TO:=[⟨false,[],[a],.det 2 (.a (.c [.i .i64,.i .i64] [kV 0,kV 0])),[b,c],(some d),none⟩]
def zHq (a b c d:Nat):List TO:=[⟨true,[],[],.det 1 (.copy a),[b],(some c),some (d,false)⟩]
def zHr (a b c d:Nat):List TO:=[o1 a (.ext b c d)]
def zHs (a b c d e f:Nat):List TO:=[o4 2 [a,b] (.store c [] d (.t e) (.t f))]
def zHt (a b:Nat):List TO:=[o5 (.a (.c ib [kV 0,kV 0,.slice none 0 0,kV 0])) a b]
def zHu (a b c:Nat):List TO:=[o1 a (.eqA [.i,.i,.i,.i] (.t b) (.t c) false)]
def zHv (a b c:Nat)(d:Int)(e:Nat):List TO:=[o3 a b [.t c,kO d,.t e]]
def zHw (a b:Nat):List TO:=[o5 (.a (.c Km [kV 0,kV 0,kV 0,kV 0,kV 0,kV 0,kV 0,.slice none 0 0,kV 0])) a b]
def zHx (a b c d:Nat):List TO:=[o2 a (.load b [] 0 .nil c false) d true]
def zHy (a b c:Nat):List TO:=[o2 a (.data (.bin .neq) [.t b,kD 3]) c true]
def zHz (a b:Nat)(c d:Int)(e f g:Nat):List TO:=[⟨false,[],[],.call 1 a [.t b,kO c,kO d] .no,[e],(some f),some (g,false)⟩]
def zHA (a b:Nat):List TO:=[o5 (.a (.c Xw [kV 0,kV 0,kV 0,kV 0,kV 0,kV 0])) a b]
def zHB (a b c d:Nat):List TO:=[o1 a (.build Xw [(0,.t b),(1,.t c),(5,.t d)])]
def zHC (a b:Nat):List TO:=[o1 a (.sli Xw [.t b])]
def zHD (a:Nat):List TO:=[o1 a (.build Km [])]
def zHE:List TO:=[⟨false,[22],[],.det 2 (.build Km [(0,.t 20),(4,.t 21),(5,.t 22)]),[23,22,22,7],(some 23),none⟩]
def zIa (a b c d e f g h:Nat):List TO:=[o4 2 [a,b,c,d] (.store e [] f (.t g) (.t h))]
def zIb (a b:Nat)(c:Int)(d e:Nat):List TO:=[⟨false,[],[],.call 2 a [.t 0,.t b,kO c] (.mp 0),[d,0],(some e),none⟩]
def zIc (a b c:Nat):List TO:=[⟨false,[a],[],.det 1 (.copy b),[7,c],(some 7),none⟩]
def zId (a b c d e f:Nat):List TO:=[⟨false,[],[],.det 2 (.copy a),[b,c,d,e],(some f),none⟩]
def zIe (a:Int)(b c d e:Nat):List TO:=[⟨false,[],[],.det 3 (.build ib [(1,kO a),(2,.t b)]),[c,1000000002,d],(some e),none⟩]
def zIf (a b c d e f g h i:Nat):List TO:=[⟨false,[],[],.call 3 a [.t b,.t c,.t d,.t e] (.mp 0),[f,g,h],(some i),none⟩]
def zIg (a b:Nat)(c:Int)(d:Nat):List TO:=[o2 a (.data (.bin .eql) [.t b,kD c]) d true]
def zIh (a b c d e f g:Nat):List TO:=[⟨false,[],[],.call 2 a [.t b,.t c,.t d] (.mp 0),[e,f],(some g),none⟩]
def Td (a b c d:Nat):List TO:=[⟨false,[],[],.call 2 a [.t 0,.t b] (.mp 0),[c,0],(some d),none⟩]
def zIj (a b:Nat):List TO:=[o5 (.a (.c dD [kV 0,kV 0,kV 0,kV 0])) a b]
def zIk (a b c d:Nat):List TO:=[o4 2 [0,a,16,19,24,27,48,b] (.store 0 [] 2 (.t c) (.t d))]
def zIm (a b:Nat)(c:Int)(d:Nat):List TO:=[o2 a (.data (.bin .geq) [.t b,kD c]) d false]
def zIn (a b c:Nat)(d:Int)(e f g:Nat):List TO:=[⟨false,[],[],.call 2 a [.t b,.t c,kO d] (.mp 0),[e,f],(some g),none⟩]
def zIo (a b:Nat):List TO:=[o5 (.build ib [(1,kO 3),(3,.t a)]) b 1000000002]
def zIp (a b c d e f:Nat):List TO:=[⟨false,[],[],.call 2 a [.t b,.t c] (.mp 0),[d,e],(some f),none⟩]
def zIq (a b:Nat):List TO:=[o5 (.a (.c Jz [kV 0,.slice none 0 0,.slice none 0 0,.slice none 0 0,.slice none 0 0,kV 0,kV 0,kV 0,kV 0,kV 0,kV 0,kV 0,.slice none 0 0,kV 0,.slice none 0 0,.slice none 0 0])) a b]
def XD (a b c d e:Nat):List TO:=[o1 a (.load b [] c (.t d) e true)]
def XE (a b c d e f g h:Nat):List TO:=[⟨false,[],[a,b],.det 1 (.load c [] d (.t e) f true),[g],(some h),none⟩]
def zIt (a b c d e f:Nat):List TO:=[⟨false,[],[a,b],.det 1 (.index c (.t d)),[e],(some f),none⟩]
def zIu (a b c d e f g:Nat):List TO:=[⟨false,[],[a,b],.det 1 (.load c [(d,7)] 0 (.t e) 7 true),[f],(some g),none⟩]
def zIv (a b c d e:Nat):List TO:=[⟨false,[],[a,b],.det 1 (.idx (.t c)),[d],(some e),none⟩]
def zIw (a b c d e f g h:Nat):List TO:=[⟨false,[],[a,b],.det 2 (.ext c d e),[f,g],(some h),none⟩]
def zIx (a b c d:Nat):List TO:=[⟨false,[],[a],.det 2 (.a (.c fQ [kV 0,kV 0,.slice none 0 0,kV 0,.bool false,.slice none 0 0,.slice none 0 0])),[b,c],(some d),none⟩]
def zIy (a b c d:Nat):List TO:=[⟨false,[],[a],.det 2 (.a (.c eX [kV 0,.bool false,.slice none 0 0,.slice none 0 0])),[b,c],(some d),none⟩]
def zIz (a b c d e f g:Nat):List TO:=[⟨false,[],[a],.det 1 (.load b [] c (.t d) e true),[f],(some g),none⟩]
def zIA (a b c d e f g:Nat):List TO:=[⟨false,[],[a],.det 1 (.load b [] c (.t d) e false),[f],(some g),none⟩]
def zIB (a b:Nat):List TO:=[o1 a (.app none b)]
def zIC (a b:Nat)(c:Int)(d:Nat):List TO:=[o2 a (.data (.bin .eql) [.t b,kD c]) d false]
def zID (a b c d e:Nat):List TO:=[⟨false,[],[],.pick a (.c (.bool true)) (.t b),[c],(some d),some (e,true)⟩]
def zIE (a b c:Nat):List TO:=[o2 a (.data (.bin .neq) [.t b,kD 0]) c false]
def zJa (a b c d e f g h i:Nat):List TO:=[⟨false,[],[],.call 2 188 [.t a,.t b,.t c] (.mt d [] 0 e 0),[f,g,h],(some i),none⟩]
def zJb (a b c d:Nat):List TO:=[⟨false,[],[a],.det 1 (.same b),[c],(some d),none⟩]
def zJc (a b c d:Nat):List TO:=[o4 2 [0,a,12,19,22,27,30,56,59,64,67,b] (.store 0 [] 2 (.t c) (.t d))]
def zJd (a:Nat)(b:Int)(c d e:Nat):List TO:=[⟨false,[],[],.call 2 73 [.t 0,.t a,kO b] (.mp 0),[c,0,d],(some e),none⟩]
def zJe (a b c:Nat):List TO:=[o2 a (.same b) c true]
def zJf (a b c d e f:Nat):List TO:=[o1 a (.load b [(c,d)] e (.t f) 1 false)]
def zJg (a b c:Nat):List TO:=[o2 a (.same b) c false]
def zJh (a b c d e f g h i:Nat):List TO:=[⟨false,[a],[],.det 2 (.store b [] 1 (.t c) (.t d)),[e,f,g,h,i],none,none⟩]
def zJi (a b c d e:Nat):List TO:=[o2 a (.load b [] c (.t d) 1 true) e false]
def zJj (a b c:Nat):List TO:=[o2 a (.load b [] 0 .nil 15 true) c false]
def aW (a b c:Nat):List TO:=bO a++iR (a+1) b c a
def di (a b c:Nat):List TO:=af a b++af (a+1) c
def gN (a b:Nat):List TO:=qy a b++yU (a+1) a
def yY (a b:Nat):List TO:=af a b++Be (a+1) a
def jV (a b c d e:Nat):List TO:=jy a b c++JC (a+1) b d a e
def gU (a b c d:Nat):List TO:=jA a b++l6 (a+1) c d a b
def kv (a b c d:Nat):List TO:=jy a b c++yT (a+1) b d a
def nL (a b c d:Nat):List TO:=zBn a b c++mK d a (a+1)
def kU (a b c d e f:Nat):List TO:=gI a b c++Bg a d a e a a f
def nM (a b c d e:Nat):List TO:=jA a b++l6 (a+1) c d a e
def gJ (a b c d e:Nat):List TO:=qz a b++Bi (a+1) c d a e
def kw (a b c:Nat):List TO:=dW a b++d_ (a+1) c a
def xz (a b c d e:Nat):List TO:=XB a b c++zGA a d e b (b+1) (b+1)
def eF (a b c:Nat):List TO:=yY a b++af c (a+1)
def iT (a b c:Nat):List TO:=lC a b c++af (c+1) c
def jg (a b:Nat):List TO:=gX a b++af (a+1) a
def xA (a b c d:Nat):List TO:=qz a b++Bi (a+1) c d a b
def ww (a b c d:Nat):List TO:=gN a b++zBr (a+2) c d (a+1)
def Te (a b c d:Nat):List TO:=bH a b c++zDb b d (a+1) b
def eZ (a b c d:Nat):List TO:=bO a++iR (a+1) b c d
def kQ (a b:Nat):List TO:=Be a b++af b a
def l9 (a b c:Nat):List TO:=jy a b c++yU (a+1) a
def mM (a b c d e:Nat):List TO:=jy a b c++yT (a+1) d e a
def mO (a b c:Nat):List TO:=bO a++zBr (a+1) b c a
def Kv (a b c d e:Nat):List TO:=wh a b c d++bH c e c
def nN (a b c d e:Nat):List TO:=bS a b c++fG (a+1) d e a
def nO (a b c d:Nat):List TO:=nL a b c d++af (a+2) (a+1)
def jh (a b:Nat):List TO:=dW a b++bC (a+1)
def om (a b c d:Nat):List TO:=bH a b c++bH b d b
def jW (a b c d:Nat):List TO:=lC a b c++af d c
def iH (a b:Nat):List TO:=bM a b++a_ (a+1)
def oq (a b c d:Nat):List TO:=ek a b c d++af (a+1) (b+1)
def ky (a b c d e:Nat):List TO:=aW a b c++aW (a+2) d e
def zKo (a b c d e f g h i:Nat):List TO:=zHj a b c d e f g++zHk a b f h f i
def zKp (a b c d e f g h i j m:Nat):List TO:=zKo a b c d e f g h i++zIw a b h j m (f+1) h (f+1)
def tX (a b c d:Nat):List TO:=bS a b c++dH (a+1) d a
def xB (a b c d e f:Nat):List TO:=zDt a b c d e++mK f c (c+1)
def JE (a b c:Nat):List TO:=di a b c++kw (a+2) (a+1) a
def yZ (a:Nat):List TO:=bO a++yU (a+1) a
def Bl (a b c:Nat):List TO:=mK a b c++af (c+1) c
def ow (a b c d e f:Nat):List TO:=af a b++nM (a+1) c d e f
def zKw (a b c d:Nat):List TO:=XC a b c d++zIv a b c (c+1) (c+1)
def Bn (a b c:Nat):List TO:=bQ a++ww (a+1) a b c
def Kw (a b c d e f g:Nat):List TO:=wu a b c d++yX e f a (a+1) (a+1) g
def Bo (a b c d e:Nat):List TO:=Te a b c d++yV (a+2) b e
def qA (a b c d:Nat):List TO:=af a b++aW (a+1) c d
def Bp (a b c d e f:Nat):List TO:=jy a b c++zEy (a+1) d e f a
def zKC (a b c d e:Nat):List TO:=zGw a b c d e++zGx a c (b+1) c (b+1)
def OJ (a b c d:Nat):List TO:=di a b c++kv (a+2) a (a+1) d
def OL (a b c:Nat):List TO:=di a b c++d_ (a+2) a (a+1)
def E5 (a b c d e:Nat):List TO:=Xx a b++Kv c a (a+1) d e
def OM (a b c d e:Nat):List TO:=di a b c++jV (a+2) a (a+1) d e
def tY (a b c:Nat):List TO:=bQ a++bS (a+1) b c
def zLd (a b c d e:Nat):List TO:=zKC a b c d e++zGy a c (b+2) (b+2)
def Tf (a b c d:Nat):List TO:=xA a b c d++OG (a+2) (a+1) b
abbrev Ky:=Int × List Int × List (Int × Int) × List (List Int) × List Int × Int × Int × Int × Int × Int × Int × Int × List (Int × Int) × Int × List (Int × Int × Int × Int × Int × Int) × List (Int × Int × (List (Int × Int × Int × Bool)) × Int × Bool × (List (Int × Int)) × (List Int))
abbrev Zt1:=Int × (Int × List Int × List (Int × Int) × List (List Int) × List Int × Int × Int × Int × Int × Int × Int × Int × List (Int × Int) × Int × List (Int × Int × Int × Int × Int × Int))
abbrev Zt2:=Int × List Int × List (Int × Int) × List (List Int) × List Int × Int × Int × Int × Int × Int × Int × Int × List (Int × Int) × Int × List (Int × Int × Int × Int × Int × Int) × Int
abbrev dE:=Int × List Int × List (Int × Int) × List (List Int) × List Int × Int × Int × Int × Int × Int × Int × Int × List (Int × Int) × Int × List (Int × Int × Int × Int × Int × Int)
abbrev Zt4:=Int × Int × List (Int × Int × Int × Bool) × Int × Bool × List (Int × Int) × List Int × Int × Bool × List (Int × Int) × List Int × Int
abbrev Zt5:=Int × Int × (List (Int × Int × Int × Bool)) × Int × Bool × (List (Int × Int)) × (List Int)
abbrev l_:=Int × Int × List (Int × Int × Int × Bool) × Int × Bool × List (Int × Int) × List Int
abbrev Zt7:=Int × Int × Int × Int × Int × Int × Int × List (Int × Int) × Int
abbrev Zt8:=Int × List (Int × Int × Int × Bool) × Int × Int × Bool × Bool
abbrev Zt9:=Int × List (Int × Int × Int × Bool) × Bool
abbrev ko:=Int × Bool × List (Int × Int) × List Int
abbrev bK:=Int × List (Int × Int × Int × Bool)
abbrev y_:=Int × Int × List (Int × Int) × Int
abbrev lU:=Int × Int × Int × Int × Int × Int
abbrev alz:=Int × List (Int × Int) × Bool
abbrev fA:=Int × Int × Int × Bool
abbrev jB:=Int × List (Int × Int)
abbrev uA:=Int × List (List Int)
abbrev kr:=Int × Int × Int × Int
abbrev aF:=Int × Int
end Go.Fw
namespace Go.Fw
noncomputable section
def aaG:TC:=
 (zS [a_ 2] (zS [af 3 0,dW 4 3,zAd 5 4 1048576,af 2 5] .ret))
def ajg:aJ:=⟨[.rd false dY],(.one false [.d])⟩
def aaH:aH:=aA []
def ajh (n:Nat):List (Int)->Option ((Bool) × Unit):=aD n aaH aaG [[.sl [.i .u8]]] [.b] [] [2] .no
def aaI:=ajh BIG
def aji:TSp:=⟨ajg,[[.sl [.i .u8]]],[.b],[],Ou.j .no,aaI⟩
theorem apV:aM PG aaH 7 ajg (aaG.ht 6) .no=some (aaG.wc aaH,[2]):=by kernel_rfl
theorem anM:aji.Ok PG 7:=aN (ak PG) apV (by kernel_rfl)
theorem apW (n) (a0):ajh n a0 = some (decide ((1048576:Int)<(a0.length:Int)),()):=by kernel_rfl
def Kz:TC:=
 (zS [[o1 2 (.nl)]] (zS [af 5 0,dW 6 5,zAe 7 13501 6,af 3 7] (zQ (.join [⟨3,[.i .i64],false⟩] 268435224 none (zS [bC 4] (.block 0 (.loop [⟨3,[.i .i64],false⟩,⟨4,[.i .i64],false⟩] 268435224 (zQ (.seq (.join [⟨15,[.b],false⟩] 65280 none (zR [di 8 4 0,kw 10 9 8,af 12 11,cK 13 4 4,zAi 14 13 4000 4,lC 12 14 15])) (zC 15 .skip (.exit 0))) (zQ (.block 1 (zR [af 18 3,zAk 19 18 131,OJ 20 0 4 1,[o1 24 (.data (.conv .i64) [.t 23])],zAo 25 19 24,[o1 26 (.data (.bin .add) [.t 25,kD 7])],zAp 27 26 1073741823,af 3 27])) (zR [eF 16 4 4]))))))) (zS [di 28 0 3,[o1 30 (.build fO [(0,.t 28),(2,.t 29)])],bM 31 30,[⟨true,[],[],.det 2 (.copy 31),[2,31],(some 2),none⟩]] .ret))))
def XF:aJ:=⟨[.rd false dY],(.bx [.sl (.ro [0]) [.d],.d,.d])⟩
def KA:aH:=aA []
def KC (n:Nat):List (Int)->Option ((List Int × Int × Int) × Unit):=aD n KA Kz [[.sl [.i .u8]]] fO [] [2] .no
def Bq:=KC BIG
def XG:TSp:=⟨XF,[[.sl [.i .u8]]],fO,[],Ou.j .no,Bq⟩
theorem ajj:aM PG KA 37 XF (Kz.ht 32) .no=some (Kz.wc KA,[2]):=by kernel_rfl
theorem agk:XG.Ok PG 37:=aN (ak PG) ajj (by kernel_rfl)
theorem ajk (n) (a0):KC n a0 = (aI n (X:=Int × Int) (B:=Int) (fun self1 x0=> (bif decide (x0.2<(a0.length:Int)) then some (decide (x0.2<(4000:Int))) else some false:Option (Bool)).bind fun x2=> bif x2 then bnd a0.length x0.2 fun n3=> a0[n3]?.bind fun y4=> self1 (bits .and .i64 (IntKind.wrap .i64 ((IntKind.wrap .i64 ((IntKind.wrap .i64 (x0.1*(131:Int)))+(IntKind.wrap .i64 (y4))))+(7:Int))) (1073741823:Int),IntKind.wrap .i64 (x0.2+(1:Int))) else some x0.1) (IntKind.wrap .i64 ((13501:Int)+(a0.length:Int)),(0:Int)):Option (Int)).bind fun x5=> some ((a0,(0:Int),x5),()):=by kernel_rfl
def F5:TC:=
 (zS [bC 2] (zS [bQ 4,bQ 5,qy 6 5,yU 7 6,iR 8 0 2 7,zAk 9 8 6364136223846793005,[o1 10 (.data (.bin .add) [.t 9,kD 1442695040888963407])],gN 11 4,Bf 0 0 2 12 10] (zS [bQ 13,bQ 18,gN 14 13,iR 16 0 2 15,zAx 17 16 33,gN 19 18,iR 21 0 2 20,zAx 22 21 45,[o1 23 (.data (.bin .xor) [.t 17,.t 22])],zAp 24 23 255,af 3 24] (zQ (.join [⟨3,[.i .i64],false⟩,⟨0,fO,false⟩] 144115188042301449 none (zS [bQ 25,bQ 29,gN 26 25,iR 28 0 1 27,gN 30 29,iR 32 0 0 31,kw 33 32 28] (zC 34 (zS [af 35 3,bQ 36,bQ 40,gN 37 36,iR 39 0 0 38,gN 41 40,iR 43 0 1 42,kv 44 39 43 1,[o1 46 (.data (.conv .i64) [.t 45])],zAo 47 35 46,zAp 48 47 255,af 3 48] (zR [bQ 49,bQ 50,gN 51 50,iR 53 0 1 52,Be 54 53,gN 55 49,Bf 0 0 1 56 54])) .skip))) (zS [af 57 3,af 2 57] .ret)))))
def Tg:aJ:=⟨[.mp [.sl (.ro []) [.d],.d,.d]],(.one false [.d])⟩
def F6:aH:=aA []
def F7 (n:Nat):(List Int × Int × Int)->Option ((Int) × List Int × Int × Int):=aD n F6 F5 [fO] [.i .i64] fO [2] (.mp 0)
def jX:=F7 BIG
def Ti:TSp:=⟨Tg,[fO],[.i .i64],fO,Ou.j (.mp 0),jX⟩
theorem agl:aM PG F6 111 Tg (F5.ht 58) (.mp 0)=some (F5.wc F6,[2]):=by kernel_rfl
theorem acE:Ti.Ok PG 111:=aN (ak PG) agl (by kernel_rfl)
theorem agm (n) (a0):F7 n a0 = bif decide ((33:Int)<0) then none else bif decide ((45:Int)<0) then none else (bif decide (a0.2.1<(a0.1.length:Int)) then bnd a0.1.length a0.2.1 fun n0=> a0.1[n0]?.bind fun y1=> some (bits .and .i64 (IntKind.wrap .i64 ((bits .and .i64 (bits .xor .i64 (Int.fdiv (IntKind.wrap .i64 ((IntKind.wrap .i64 (a0.2.2*(6364136223846793005:Int)))+(1442695040888963407:Int))) (2 ^ (Nat.min (Int.toNat (33:Int)) (IntKind.bits .i64)))) (Int.fdiv (IntKind.wrap .i64 ((IntKind.wrap .i64 (a0.2.2*(6364136223846793005:Int)))+(1442695040888963407:Int))) (2 ^ (Nat.min (Int.toNat (45:Int)) (IntKind.bits .i64))))) (255:Int))+(IntKind.wrap .i64 (y1)))) (255:Int),(a0.1,IntKind.wrap .i64 (a0.2.1+(1:Int)),IntKind.wrap .i64 ((IntKind.wrap .i64 (a0.2.2*(6364136223846793005:Int)))+(1442695040888963407:Int)))) else some (bits .and .i64 (bits .xor .i64 (Int.fdiv (IntKind.wrap .i64 ((IntKind.wrap .i64 (a0.2.2*(6364136223846793005:Int)))+(1442695040888963407:Int))) (2 ^ (Nat.min (Int.toNat (33:Int)) (IntKind.bits .i64)))) (Int.fdiv (IntKind.wrap .i64 ((IntKind.wrap .i64 (a0.2.2*(6364136223846793005:Int)))+(1442695040888963407:Int))) (2 ^ (Nat.min (Int.toNat (45:Int)) (IntKind.bits .i64))))) (255:Int),(a0.1,a0.2.1,IntKind.wrap .i64 ((IntKind.wrap .i64 (a0.2.2*(6364136223846793005:Int)))+(1442695040888963407:Int)))):Option (Int × (List Int × Int × Int))).bind fun x2=> some (x2.1,x2.2):=by kernel_rfl
def Ct:TC:=
 (zS [bC 4] (zQ (zS [af 9 1,zAy 10 9 0] (zC 10 (zS [bC 4] .ret) .skip)) (zQ (zS [af 11 1,zAy 12 11 256] (zC 12 (zS [bQ 13,zAz 111 14 14,af 15 1,zAA 16 14 15,af 4 16] .ret) .skip)) (zS [bQ 17,zAz 111 18 18,af 5 18] (zS [bQ 19,zAz 111 20 20,af 6 20] (zS [bQ 21,zAz 111 22 22,af 7 22] (zS [bQ 23,zAz 111 24 24,af 8 24] (zS [af 25 5,zAk 26 25 16777216,af 27 6,zAk 28 27 65536,zAo 29 26 28,af 30 7,zAk 31 30 256,zAo 32 29 31,af 33 8,zAo 34 32 33,af 35 1,zAA 36 34 35,af 4 36] .ret))))))))
def OO:aJ:=⟨[.mp [.sl (.ro []) [.d],.d,.d],.rd false [.d]],(.one false [.d])⟩
def Cu:aH:=aA [(111,Ti)]
def Cv (n:Nat):(List Int × Int × Int) × Int->Option ((Int) × List Int × Int × Int):=aD n Cu Ct [fO,[.i .i64]] [.i .i64] fO [4] (.mp 0)
def fF:=Cv BIG
def oz:TSp:=⟨OO,[fO,[.i .i64]],[.i .i64],fO,Ou.j (.mp 0),fF⟩
theorem acF:aM PG Cu 112 OO (Ct.ht 37) (.mp 0)=some (Ct.wc Cu,[4]):=by kernel_rfl
theorem rF:oz.Ok PG 112:=aN (aa acE (ak PG)) acF (by kernel_rfl)
theorem acG (n) (a0) (a1):Cv n (a0,a1) = bif decide (a1<=(0:Int)) then some ((0:Int),a0) else bif decide (a1<=(256:Int)) then (jX a0).bind fun r0=> bif decide (a1=0) then none else some (Int.tmod r0.1 a1,r0.2) else (jX a0).bind fun r1=> (jX r1.2).bind fun r2=> (jX r2.2).bind fun r3=> (jX r3.2).bind fun r4=> bif decide (a1=0) then none else some (Int.tmod (IntKind.wrap .i64 ((IntKind.wrap .i64 ((IntKind.wrap .i64 ((IntKind.wrap .i64 (r1.1*(16777216:Int)))+(IntKind.wrap .i64 (r2.1*(65536:Int)))))+(IntKind.wrap .i64 (r3.1*(256:Int)))))+r4.1)) a1,r4.2):=by kernel_rfl
def VB:TC:=
 (zS [bC 2] (zS [bQ 3,zAB 11 4 4,zAe 5 2 4,af 2 5] .ret))
def aeU:aJ:=⟨[.mp [.sl (.ro []) [.d],.d,.d]],(.one false [.d])⟩
def VC:aH:=aA [(112,oz)]
def VD (n:Nat):(List Int × Int × Int)->Option ((Int) × List Int × Int × Int):=aD n VC VB [fO] [.i .i64] fO [2] (.mp 0)
def N9:=VD BIG
def aeV:TSp:=⟨aeU,[fO],[.i .i64],fO,Ou.j (.mp 0),N9⟩
theorem anN:aM PG VC 116 aeU (VB.ht 6) (.mp 0)=some (VB.wc VC,[2]):=by kernel_rfl
theorem alA:aeV.Ok PG 116:=aN (aa rF (ak PG)) anN (by kernel_rfl)
theorem anO (n) (a0):VD n a0 = (fF (a0,(11:Int))).bind fun r0=> some (IntKind.wrap .i64 ((2:Int)+r0.1),r0.2):=by kernel_rfl
def QC:TC:=
 (zS [a_ 6] (zQ (.join [⟨6,[.b],false⟩] 32704 none (zR [di 7 0 1,zAC 9 7 8,af 10 9,cK 11 0 3,cK 12 2 3,zAD,jW 10 13 14 6])) .ret))
def aaJ:aJ:=⟨[.rd false [.d],.rd false [.d],.rd false [.d]],(.one false [.d])⟩
def QD:aH:=aA []
def QE (n:Nat):Int × Int × Int->Option ((Bool) × Unit):=aD n QD QC [[.i .i64],[.i .i64],[.i .i64]] [.b] [] [6] .no
def bg:=QE BIG
def dz:TSp:=⟨aaJ,[[.i .i64],[.i .i64],[.i .i64]],[.b],[],Ou.j .no,bg⟩
theorem alB:aM PG QD 42 aaJ (QC.ht 15) .no=some (QC.wc QD,[6]):=by kernel_rfl
theorem cB:dz.Ok PG 42:=aN (ak PG) alB (by kernel_rfl)
theorem alC (n) (a0) (a1) (a2):QE n (a0,a1,a2) = (bif decide (a1<=a0) then some (decide (a0<=a2)) else some false:Option (Bool)).bind fun x0=> some (x0,()):=by kernel_rfl
def zb:TC:=
 (zS [tT 4] (zS [v_ 11,bH 11 5 11] (zQ (.join [⟨5,[.sl [.i .i64]],false⟩] 2093152 none (zS [bC 6] (.block 0 (.loop [⟨5,[.sl [.i .i64]],false⟩,⟨6,[.i .i64],false⟩] 2093152 (zQ (zS [OL 12 6 0] (zC 14 .skip (.exit 0))) (zQ (.block 1 (zR [bH 5 17 5,af 18 6,Ko 19 18,Kv 17 19 20 17 5])) (zR [eF 15 6 6]))))))) (zQ (.join [⟨5,[.sl [.i .i64]],false⟩] 1180591620717409208224 none (zS [bC 7] (.block 2 (.loop [⟨5,[.sl [.i .i64]],false⟩,⟨7,[.i .i64],false⟩] 1180591620717409208224 (zQ (zS [OL 21 7 0] (zC 23 .skip (.exit 2))) (zQ (.join [⟨5,[.sl [.i .i64]],false⟩] 1180591620717344196384 none (.block 3 (zS [bC 8] (.block 4 (.loop [⟨5,[.sl [.i .i64]],false⟩,⟨8,[.i .i64],false⟩] 1180591620717344196384 (zQ (zS [JE 26 8 1] (zC 29 .skip (.exit 4))) (zQ (.join [⟨5,[.sl [.i .i64]],false⟩] 1180591620713116337696 none (.block 5 (zS [cO 32 5,di 33 1 8,l9 35 33 34,yT 37 33 2 36,mM 38 32 37 5 1,af 9 39] (zS [cO 40 5,di 41 1 8,l9 43 41 42,OD 45 41 2 1 44,mM 46 40 45 5 1,af 10 47] (zQ (.join [⟨5,[.sl [.i .i64]],false⟩] 576180381133307936 none (zS [af 48 9,af 49 10,d_ 50 48 49] (zC 50 (zR [cO 51 5,di 52 1 8,l9 54 52 53,OD 56 52 2 1 55,af 57 9,jy 58 51 56,[o4 1 [5,32,40,51] (.store 5 [(0,1)] 0 (.t 58) (.t 57))]]) .skip))) (zS [OL 59 10 9] (zC 61 (zR [cO 62 5,di 63 1 8,l9 65 63 64,yT 67 63 2 66,af 68 10,jy 69 62 67,zBg 5 62 5 0 1 0 69 68]) .skip))))))) (zR [eF 30 8 8])))))))) (zR [eF 24 7 7]))))))) (zS [om 5 70 5 4] .ret)))))
def KD:aJ:=⟨[.rd false [.d],.rd false fJ],(.one false dY)⟩
def ze:aH:=aA []
def zf (n:Nat):Int × (List aF)->Option ((List Int) × Unit):=aD n ze zb [[.i .i64],[.sl [.i .i64,.i .i64]]] [.sl [.i .i64]] [] [4] .no
def mP:=zf BIG
def rG:TSp:=⟨KD,[[.i .i64],[.sl [.i .i64,.i .i64]]],[.sl [.i .i64]],[],Ou.j .no,mP⟩
theorem aaK:aM PG ze 142 KD (zb.ht 71) .no=some (zb.wc ze,[4]):=by kernel_rfl
theorem wO:rG.Ok PG 142:=aN (ak PG) aaK (by kernel_rfl)
theorem aaL (n) (a0) (a1):zf n (a0,a1) = (aI n (X:=(List Int) × Int) (B:=(List Int)) (fun self1 x0=> bif decide (x0.2<a0) then bif decide (x0.1.length+[x0.2].length<=4294967296) then self1 (x0.1++[x0.2],IntKind.wrap .i64 (x0.2+(1:Int))) else none else some x0.1) ([],(0:Int)):Option ((List Int))).bind fun x2=> (aI n (X:=(List Int) × Int) (B:=(List Int)) (fun self4 x3=> bif decide (x3.2<a0) then (aI n (X:=(List Int) × Int) (B:=(List Int)) (fun self6 x5=> bif decide (x5.2<(a1.length:Int)) then (bnd a1.length x5.2 fun n7=> a1[n7]?.bind fun y8=> bnd x5.1.length y8.1 fun n9=> x5.1[n9]?.bind fun y10=> bnd a1.length x5.2 fun n11=> a1[n11]?.bind fun y12=> bnd x5.1.length y12.2 fun n13=> x5.1[n13]?.bind fun y14=> (bif decide (y10<y14) then bnd a1.length x5.2 fun n15=> a1[n15]?.bind fun y16=> bnd x5.1.length y16.2 fun n17=> x5.1[n17]?.bind fun y18=> some (x5.1.set n17 y10) else some x5.1:Option ((List Int))).bind fun x19=> bif decide (y14<y10) then bnd a1.length x5.2 fun n20=> a1[n20]?.bind fun y21=> bnd x19.length y21.1 fun n22=> x19[n22]?.bind fun y23=> some (x19.set n22 y14) else some x19:Option ((List Int))).bind fun x24=> self6 (x24,IntKind.wrap .i64 (x5.2+(1:Int))) else some x5.1) (x3.1,(0:Int)):Option ((List Int))).bind fun x25=> self4 (x25,IntKind.wrap .i64 (x3.2+(1:Int))) else some x3.1) (x2,(0:Int)):Option ((List Int))).bind fun x26=> some (x26,()):=by kernel_rfl
def F8:TC:=
 (zS [rC 4 1000000005,a_ 5] (zQ (.seq (.join [⟨16,[.b],false⟩] 130560 none (zR [af 9 0,lD 10 42 9 12,jg 11 10,dw 13 1 3,Kq 42 13 3 14 14 3,nL 15 14 3 12])) (zC 16 (zS [[o1 17 (.build bu [])],ek 4 17 4 17,a_ 5] .ret) .skip)) (zS [di 18 0 1,[o1 20 (.make (.t 19) [.i .i64]),o5 (.build bu [(0,.t 18),(4,.t 20)]) 21 20],rC 6 1000000007,ek 6 21 6 21] (zQ (.join [⟨6,bu,false⟩] 68715282624 none (zS [bC 7] (.block 0 (.loop [⟨6,bu,false⟩,⟨7,[.i .i64],false⟩] 68715282624 (zQ (zS [OL 22 7 0] (zC 24 .skip (.exit 0))) (zQ (.block 1 (zR [di 29 7 1,mO 27 6 1,zAA 31 29 30,zAe 32 1 31,Ko 33 32,Kr 28 28 33 34 28 28 6 34,bO 35,rD 6 34 28 6 1 35 34])) (zR [eF 25 7 7]))))))) (zQ (.join [⟨6,bu,false⟩] 562881233944896 none (zS [bC 8] (.block 2 (.loop [⟨6,bu,false⟩,⟨8,[.i .i64],false⟩] 562881233944896 (zQ (zS [OL 36 8 1] (zC 38 .skip (.exit 2))) (zQ (.block 3 (zR [af 43 0,mO 41 6 3,S9 44,fG 45 142 43 44,zBw 45 46 45,zBx 42 42 46 47 42 46 42 6 47,bO 48,rD 6 47 42 6 3 48 47])) (zR [eF 39 8 8]))))))) (zS [kU 49 6 15 4 4 6,gu 5] .ret))))))
def Tj:aJ:=⟨[.rd false [.d],.rd false [.d]],(.tup [(true,15),(false,1)] Ct0)⟩
def F9:aH:=aA [(42,dz),(142,rG)]
def F_ (n:Nat):Int × Int->Option ((Int × List Int × List aF × List (List Int) × List Int × Int × Int × Int × Int × Int × Int × Int × List aF × Int × List lU × Bool) × Unit):=aD n F9 F8 [[.i .i64],[.i .i64]] [.i .i64,.sl [.i .i64],.sl [.i .i64,.i .i64],.sl [.sl [.i .i64]],.sl [.i .i64],.i .i64,.i .i64,.i .i64,.i .i64,.i .i64,.i .i64,.i .i64,.sl [.i .i64,.i .i64],.i .i64,.sl Xw,.b] [] [4,5] .no
def Ga:=F_ BIG
def Tk:TSp:=⟨Tj,[[.i .i64],[.i .i64]],[.i .i64,.sl [.i .i64],.sl [.i .i64,.i .i64],.sl [.sl [.i .i64]],.sl [.i .i64],.i .i64,.i .i64,.i .i64,.i .i64,.i .i64,.i .i64,.i .i64,.sl [.i .i64,.i .i64],.i .i64,.sl Xw,.b],[],Ou.j .no,Ga⟩
theorem agn:aM PG F9 110 Tj (F8.ht 50) .no=some (F8.wc F9,[4,5]):=by kernel_rfl
theorem acH:Tk.Ok PG 110:=aN (aa cB (aa wO (ak PG))) agn (by kernel_rfl)
theorem agp (n) (a0) (a1):F_ n (a0,a1) = ((bg (a0,(1:Int),(12:Int))).bind fun r0=> bif !r0.1 then some true else (bg (a1,(1:Int),(3:Int))).bind fun r1=> some !r1.1:Option (Bool)).bind fun x2=> bif x2 then some (((0:Int),[],[],[],[],(0:Int),(0:Int),(0:Int),(0:Int),(0:Int),(0:Int),(0:Int),[],(0:Int),[],false),()) else bif decide (0<=a1) then bif decide ((Int.toNat a1)<=4294967296) then (aI n (X:=dE × Int) (B:=dE) (fun self4 x3=> bif decide (x3.2<a0) then bif decide (a1=0) then none else bif decide (x3.1.2.1.length+([IntKind.wrap .i64 ((1:Int)+(Int.tmod x3.2 a1))]).length<=4294967296) then self4 ((x3.1.1,x3.1.2.1++([IntKind.wrap .i64 ((1:Int)+(Int.tmod x3.2 a1))]),x3.1.2.2),IntKind.wrap .i64 (x3.2+(1:Int))) else none else some x3.1) ((a0,[],[],[],List.replicate (Int.toNat a1) (0:Int),(0:Int),(0:Int),(0:Int),(0:Int),(0:Int),(0:Int),(0:Int),[],(0:Int),[]),(0:Int)):Option (dE)).bind fun x5=> (aI n (X:=dE × Int) (B:=dE) (fun self7 x6=> bif decide (x6.2<a1) then (mP (a0,[])).bind fun r8=> bif decide (x6.1.2.2.2.1.length+[r8.1].length<=4294967296) then self7 ((x6.1.1,x6.1.2.1,x6.1.2.2.1,x6.1.2.2.2.1++[r8.1],x6.1.2.2.2.2),IntKind.wrap .i64 (x6.2+(1:Int))) else none else some x6.1) (x5,(0:Int)):Option (dE)).bind fun x9=> some ((x9.1,x9.2.1,x9.2.2.1,x9.2.2.2.1,x9.2.2.2.2.1,x9.2.2.2.2.2.1,x9.2.2.2.2.2.2.1,x9.2.2.2.2.2.2.2.1,x9.2.2.2.2.2.2.2.2.1,x9.2.2.2.2.2.2.2.2.2.1,x9.2.2.2.2.2.2.2.2.2.2.1,x9.2.2.2.2.2.2.2.2.2.2.2.1,x9.2.2.2.2.2.2.2.2.2.2.2.2.1,x9.2.2.2.2.2.2.2.2.2.2.2.2.2.1,x9.2.2.2.2.2.2.2.2.2.2.2.2.2.2,true),()) else none else none:=by kernel_rfl
def KE:TC:=
 (zS [EW 2 1000000003,a_ 3] (zQ (zS [af 4 0,lD 5 42 4 12,gX 6 5] (zC 6 (zS [zBC 7,ek 2 7 2 7,a_ 3] .ret) .skip)) (zS [af 8 0,zBD 9 8,ek 2 9 2 9,gu 3] .ret)))
def XH:aJ:=⟨[.rd false [.d]],(.tup [(true,2),(false,1)] Ct5)⟩
def KF:aH:=aA [(42,dz)]
def KG (n:Nat):Int->Option (Zt9 × Unit):=aD n KF KE [[.i .i64]] Vz [] [2,3] .no
def KH:=KG BIG
def XI:TSp:=⟨XH,[[.i .i64]],Vz,[],Ou.j .no,KH⟩
theorem ajl:aM PG KF 179 XH (KE.ht 10) .no=some (KE.wc KF,[2,3]):=by kernel_rfl
theorem agq:XI.Ok PG 179:=aN (aa cB (ak PG)) ajl (by kernel_rfl)
theorem ajm (n) (a0):KG n a0 = (bg (a0,(1:Int),(12:Int))).bind fun r0=> bif !r0.1 then some (((0:Int),[],false),()) else some ((a0,[],true),()):=by kernel_rfl
def Cw:TC:=
 (zS [zBE 4 1000000005,a_ 5] (zS [af 9 1,dH 10 179 9,bH 10 8 10,zDb 8 2 11 8,yV 12 8 2,EW 6 1000000007,oq 6 11 6 11] (zQ (.seq (.join [⟨19,[.b],false⟩] 1040384 none (zR [af 13 7,jg 14 13,dw 16 0 2,Kq 42 16 3 17 17 2,nL 18 17 2 15])) (zC 19 (zS [zDd 20,ek 4 20 4 20,a_ 5] .ret) .skip)) (zS [af 21 0,gI 22 6 2,[⟨false,[22],[],.det 2 (.build fQ [(0,.t 21),(1,.t 22)]),[23,22,22,6],(some 23),none⟩],ek 4 23 4 23,gu 5] .ret))))
def OP:aJ:=⟨[.rd false [.d],.rd false [.d]],(.tup [(true,7),(false,1)] [.d,.d,.sl (.own none) [.d,.d,.d,.d],.d,.d,.sl (.own none) [.d,.d],.sl (.own none) [.d],.d])⟩
def Cx:aH:=aA [(179,XI),(42,dz)]
def Cy (n:Nat):Int × Int->Option ((Int × Int × List fA × Int × Bool × List aF × List Int × Bool) × Unit):=aD n Cx Cw [[.i .i64],[.i .i64]] [.i .i64,.i .i64,.sl kM,.i .i64,.b,.sl [.i .i64,.i .i64],.sl [.i .i64],.b] [] [4,5] .no
def Cz:=Cy BIG
def OQ:TSp:=⟨OP,[[.i .i64],[.i .i64]],[.i .i64,.i .i64,.sl kM,.i .i64,.b,.sl [.i .i64,.i .i64],.sl [.i .i64],.b],[],Ou.j .no,Cz⟩
theorem acI:aM PG Cx 114 OP (Cw.ht 24) .no=some (Cw.wc Cx,[4,5]):=by kernel_rfl
theorem aaM:OQ.Ok PG 114:=aN (aa agq (aa cB (ak PG))) acI (by kernel_rfl)
theorem acJ (n) (a0) (a1):Cy n (a0,a1) = (KH a1).bind fun r0=> (bif !r0.1.2.2 then some true else (bg (a0,(1:Int),(3:Int))).bind fun r1=> some !r1.1:Option (Bool)).bind fun x2=> bif x2 then some (((0:Int),(0:Int),[],(0:Int),false,[],[],false),()) else some ((a0,r0.1.1,r0.1.2.1,(0:Int),false,[],[],true),()):=by kernel_rfl
def Gb:TC:=
 (zS [bC 2] (zS [af 4 0,dW 5 4,[o1 6 (.data (.bin .quo) [.t 5,kD 4])],zAe 7 12 6,af 3 7] (zQ (zS [af 8 3,zAd 9 8 60] (zC 9 (zS [iq 2 60] .ret) .skip)) (zS [af 10 3,af 2 10] .ret))))
def Tm:aJ:=⟨[.rd false dY],(.one false [.d])⟩
def Gc:aH:=aA []
def Gd (n:Nat):List (Int)->Option ((Int) × Unit):=aD n Gc Gb [[.sl [.i .u8]]] [.i .i64] [] [2] .no
def Gf:=Gd BIG
def Tn:TSp:=⟨Tm,[[.sl [.i .u8]]],[.i .i64],[],Ou.j .no,Gf⟩
theorem ags:aM PG Gc 117 Tm (Gb.ht 11) .no=some (Gb.wc Gc,[2]):=by kernel_rfl
theorem acK:Tn.Ok PG 117:=aN (ak PG) ags (by kernel_rfl)
theorem agt (n) (a0):Gd n a0 = bif decide ((4:Int)=0) then none else bif decide ((60:Int)<(IntKind.wrap .i64 ((12:Int)+(IntKind.wrap .i64 (Int.tdiv (a0.length:Int) (4:Int)))))) then some ((60:Int),()) else some (IntKind.wrap .i64 ((12:Int)+(IntKind.wrap .i64 (Int.tdiv (a0.length:Int) (4:Int)))),()):=by kernel_rfl
def VE:TC:=
 (zS [iH 1 0] (zS [bO 3,yU 4 3,iR 5 1 9 4,zDf 6 5 0,af 2 6] .ret))
def aeW:aJ:=⟨[.rd true kN],(.one false [.d])⟩
def VF:aH:=aA []
def aeX (n:Nat):dE->Option ((Bool) × Unit):=aD n VF VE [bu] [.b] [] [2] .no
def qB:=aeX BIG
def E8:TSp:=⟨aeW,[bu],[.b],[],Ou.j .no,qB⟩
theorem anP:aM PG VF 39 aeW (VE.ht 7) .no=some (VE.wc VF,[2]):=by kernel_rfl
theorem Gg:E8.Ok PG 39:=aN (ak PG) anP (by kernel_rfl)
theorem anQ (n) (a0):aeX n a0 = some (!decide (a0.2.2.2.2.2.2.2.2.2.1=(0:Int)),()):=by kernel_rfl
def Gh:TC:=
 (zS [bM 1 0,Bh 2 1000000003] (zS [eZ 5 1 0 5,zDh 7 6,Bh 3 1000000004,ek 3 7 3 7] (zQ (.join [⟨3,eH,false⟩] 8589934360 none (zS [bC 4] (.block 0 (.loop [⟨3,eH,false⟩,⟨4,[.i .i64],false⟩] 8589934360 (zQ (zS [af 8 4,eZ 9 1 1 9,kw 11 10 8] (zC 12 .skip (.exit 0))) (zQ (.block 1 (zR [af 19 4,af 25 4,mO 15 3 1,aW 17 1 1,l9 20 18 19,yT 22 18 4 21,aW 23 1 1,l9 26 24 25,OD 28 24 4 1 27,JB 29 22 28,Xx 30 29,Kr 16 16 30 31 16 16 3 31,bO 32,rD 3 31 16 3 1 32 31])) (zR [eF 13 4 4]))))))) (zS [kU 33 3 2 2 2 3] .ret))))
def Tp:aJ:=⟨[.rd true qx],(.one true wN)⟩
def Gi:aH:=aA []
def Gj (n:Nat):bK->Option (jB × Unit):=aD n Gi Gh [bz] eH [] [2] .no
def iZ:=Gj BIG
def rH:TSp:=⟨Tp,[bz],eH,[],Ou.j .no,iZ⟩
theorem agu:aM PG Gi 123 Tp (Gh.ht 34) .no=some (Gh.wc Gi,[2]):=by kernel_rfl
theorem vg:rH.Ok PG 123:=aN (ak PG) agu (by kernel_rfl)
theorem agv (n) (a0):Gj n a0 = (aI n (X:=jB × Int) (B:=jB) (fun self1 x0=> bif decide (x0.2<(a0.2.length:Int)) then bnd a0.2.length x0.2 fun n2=> a0.2[n2]?.bind fun y3=> bnd a0.2.length x0.2 fun n4=> a0.2[n4]?.bind fun y5=> bif decide (x0.1.2.length+([(y3.1,y5.2.1)]).length<=4294967296) then self1 ((x0.1.1,x0.1.2++([(y3.1,y5.2.1)])),IntKind.wrap .i64 (x0.2+(1:Int))) else none else some x0.1) ((a0.1,[]),(0:Int)):Option (jB)).bind fun x6=> some (x6,()):=by kernel_rfl
def KI:TC:=
 (zS [iH 3 1] (zQ (.join [⟨4,[.b],false⟩] 268435440 none (zR [af 5 0,lD 6 42 5 12,af 7 6,jA 8 2,l6 9 3 0 8 2,cK 10 0 2,EX 11 10 2,Xy 42 9 11 12 12 2,iT 7 12 13,nM 15 9 3 1 9,cK 17 0 9,EX 18 17 9,Xy 42 16 18 19 19 9,iT 14 19 20,gU 22 16 3 0,gU 24 16 3 1,zDp 26 23 25 16,jW 21 26 27 4])) .ret))
def XJ:aJ:=⟨[.rd false [.d],.rd true [.d,.d]],(.one false [.d])⟩
def KJ:aH:=aA [(42,dz)]
def KL (n:Nat):Int × aF->Option ((Bool) × Unit):=aD n KJ KI [[.i .i64],[.i .i64,.i .i64]] [.b] [] [4] .no
def qC:=KL BIG
def wy:TSp:=⟨XJ,[[.i .i64],[.i .i64,.i .i64]],[.b],[],Ou.j .no,qC⟩
theorem ajn:aM PG KJ 128 XJ (KI.ht 28) .no=some (KI.wc KJ,[4]):=by kernel_rfl
theorem xO:wy.Ok PG 128:=aN (aa cB (ak PG)) ajn (by kernel_rfl)
theorem ajo (n) (a0) (a1):KL n (a0,a1) = ((bg (a0,(1:Int),(12:Int))).bind fun r0=> bif r0.1 then (bg (a1.1,(0:Int),IntKind.wrap .i64 (a0-(1:Int)))).bind fun r1=> bif r1.1 then (bg (a1.2,(0:Int),IntKind.wrap .i64 (a0-(1:Int)))).bind fun r2=> bif r2.1 then some (decide (a1.1<a1.2)) else some false else some false else some false:Option (Bool)).bind fun x3=> some (x3,()):=by kernel_rfl
def Gl:TC:=
 (zS [bM 2 0,iH 3 1] (zQ (.join [⟨4,[.b],false⟩] 16777200 none (zR [eZ 5 2 0 5,eZ 7 3 0 7,d_ 9 6 8,af 10 9,gJ 11 5 2 0 5,gJ 13 5 3 0 5,zDs 15 12 14 5,dw 16 15 5,gU 17 11 2 1,gU 19 11 3 1,zDp 21 18 20 11,xB 16 21 22 22 5 10,af 4 23])) .ret))
def Tq:aJ:=⟨[.rd true [.d,.d],.rd true [.d,.d]],(.one false [.d])⟩
def Gm:aH:=aA []
def Gn (n:Nat):aF × aF->Option ((Bool) × Unit):=aD n Gm Gl [[.i .i64,.i .i64],[.i .i64,.i .i64]] [.b] [] [4] .no
def rJ:=Gn BIG
def Gp:TSp:=⟨Tq,[[.i .i64,.i .i64],[.i .i64,.i .i64]],[.b],[],Ou.j .no,rJ⟩
theorem agw:aM PG Gm 187 Tq (Gl.ht 24) .no=some (Gl.wc Gm,[4]):=by kernel_rfl
theorem OT:Gp.Ok PG 187:=aN (ak PG) agw (by kernel_rfl)
theorem agx (n) (a0) (a1):Gn n (a0,a1) = (bif decide (a0.1<a1.1) then some true else bif decide (a0.1=a1.1) then some (decide (a0.2<a1.2)) else some false:Option (Bool)).bind fun x0=> some (x0,()):=by kernel_rfl
def CB:TC:=
 (zS [a_ 4] (zQ (.join [] 68719476720 (some [⟨4,[.b],false⟩]) (zS [bC 5] (.block 0 (.loop [⟨5,[.i .i64],false⟩] 68719476720 (zQ (zS [di 6 5 1,dW 8 7,d_ 9 6 8] (zC 9 .skip (.exit 0))) (zQ (.join [] 68719472656 (some [⟨4,[.b],false⟩]) (.block 1 (zQ (.join [⟨35,[.b],false⟩] 68719472640 none (zR [di 12 0 1,af 14 5,jV 15 13 14 2 2,fG 17 128 12 16,jg 18 17,dw 20 5 7,Xz 21 20 0 7,dw 22 21 7,cK 23 1 10,cK 24 5 10,EX 25 24 10,kT 26 23 25 10,zDx 27 23 2 26 2 10,cK 28 1 10,cK 29 5 10,kT 30 28 29 10,zDx 31 28 2 30 2 10,l7 187 27 31 32 32 10,zDz 33 32 10,xB 22 33 34 34 7 19])) (zC 35 (zS [a_ 4] .ret) .skip)))) (zR [eF 10 5 5]))))))) (zS [af 36 1,dW 37 36,zAy 38 37 66,af 4 38] .ret)))
def OU:aJ:=⟨[.rd false [.d],.rd false fJ],(.one false [.d])⟩
def CE:aH:=aA [(128,wy),(187,Gp)]
def CF (n:Nat):Int × (List aF)->Option ((Bool) × Unit):=aD n CE CB [[.i .i64],[.sl [.i .i64,.i .i64]]] [.b] [] [4] .no
def lJ:=CF BIG
def oC:TSp:=⟨OU,[[.i .i64],[.sl [.i .i64,.i .i64]]],[.b],[],Ou.j .no,lJ⟩
theorem acL:aM PG CE 139 OU (CB.ht 39) .no=some (CB.wc CE,[4]):=by kernel_rfl
theorem rM:oC.Ok PG 139:=aN (aa xO (aa OT (ak PG))) acL (by kernel_rfl)
theorem acM (n) (a0) (a1):CF n (a0,a1) =
 (aI n (X:=Int) (B:=(Unit) ⊕ (Bool)) (fun self1 x0=>
  bif decide (x0<(a1.length:Int)) then
   ((bnd a1.length x0 fun n2=>
    a1[n2]?.bind fun y3=>
    (qC (a0,y3)).bind fun r4=>
    bif !r4.1 then
     some true
    else bif decide ((0:Int)<x0) then
     bnd a1.length (IntKind.wrap .i64 (x0-(1:Int))) fun n5=>
     a1[n5]?.bind fun y6=>
     bnd a1.length x0 fun n7=>
     a1[n7]?.bind fun y8=>
     (rJ (y6,y8)).bind fun r9=>
     some !r9.1
    else some false:Option (Bool)).bind fun x10=>
    bif x10 then
     some (Sum.inr false)
    else some (Sum.inl ()):Option ((Unit) ⊕ (Bool))).bind fun y=>match y with
   | .inl x11=>
    self1 (IntKind.wrap .i64 (x0+(1:Int)))
   | .inr x11=>
    some (Sum.inr x11)
  else some (Sum.inl ())) (0:Int):Option ((Unit) ⊕ (Bool))).bind fun y=>match y with
 | .inl x12=>
  some (decide ((a1.length:Int)<=(66:Int)),())
 | .inr x12=>
  some (x12,()):=by kernel_rfl
def Gq:TC:=
 (zS [iH 1 0] (zQ (.join [⟨2,[.b],false⟩] 8188 none (zR [eZ 3 1 0 3,lD 5 42 4 12,af 6 5,jA 7 3,l6 8 1 0 7 3,jA 9 3,l6 10 1 1 9 3,l7 139 8 10 11 11 3,jW 6 11 12 2])) .ret))
def Tt:aJ:=⟨[.rd true wN],(.one false [.d])⟩
def Gr:aH:=aA [(42,dz),(139,oC)]
def Gs (n:Nat):jB->Option ((Bool) × Unit):=aD n Gr Gq [eH] [.b] [] [2] .no
def nC:=Gs BIG
def rO:TSp:=⟨Tt,[eH],[.b],[],Ou.j .no,nC⟩
theorem agy:aM PG Gr 127 Tt (Gq.ht 13) .no=some (Gq.wc Gr,[2]):=by kernel_rfl
theorem vk:rO.Ok PG 127:=aN (aa cB (aa rM (ak PG))) agy (by kernel_rfl)
theorem agz (n) (a0):Gs n a0 = ((bg (a0.1,(1:Int),(12:Int))).bind fun r0=> bif r0.1 then (lJ (a0.1,a0.2)).bind fun r1=> some r1.1 else some false:Option (Bool)).bind fun x2=> some (x2,()):=by kernel_rfl
def Gt:TC:=
 (zS [bM 2 0,wm 4] (zS [S9 8,bH 8 5 8] (zQ (.join [⟨5,[.sl [.i .i64,.i .i64]],false⟩] 137438953184 none (zS [bC 6] (.block 0 (.loop [⟨5,[.sl [.i .i64,.i .i64]],false⟩,⟨6,[.i .i64],false⟩] 137438953184 (zQ (zS [qA 9 6 2 1,kw 12 11 9] (zC 13 .skip (.exit 0))) (zQ (.join [⟨5,[.sl [.i .i64,.i .i64]],false⟩] 137438888096 none (.block 1 (zS [aW 16 2 1,af 18 6,jV 19 17 18 4 4,OE 7 1000000008,cZ 7 7 20] (zQ (.join [⟨28,[.b],false⟩] 534773760 none (zR [aW 21 7 3,ow 23 22 2 7 2 2,cK 26 1 2,zDD 27 25 26 2,lC 23 27 28])) (zC 28 (zR [bH 5 29 5,ky 30 7 0 7 1,JB 34 31 33,E5 35 34 29 29 5]) .skip))))) (zR [eF 14 6 6]))))))) (zS [om 5 37 5 4] .ret))))
def Tu:aJ:=⟨[.rd true qx,.rd false [.d]],(.one false fJ)⟩
def Gu:aH:=aA []
def xP (n:Nat):bK × Int->Option ((List aF) × Unit):=aD n Gu Gt [bz,[.i .i64]] [.sl [.i .i64,.i .i64]] [] [4] .no
def Gv:=xP BIG
def Tv:TSp:=⟨Tu,[bz,[.i .i64]],[.sl [.i .i64,.i .i64]],[],Ou.j .no,Gv⟩
theorem agA:aM PG Gu 203 Tu (Gt.ht 38) .no=some (Gt.wc Gu,[4]):=by kernel_rfl
theorem acN:Tv.Ok PG 203:=aN (ak PG) agA (by kernel_rfl)
theorem Tw (n) (a0) (a1):xP n (a0,a1) = (aI n (X:=(List aF) × Int) (B:=(List aF)) (fun self1 x0=> bif decide (x0.2<(a0.2.length:Int)) then (bnd a0.2.length x0.2 fun n2=> a0.2[n2]?.bind fun y3=> (bif y3.2.2.2 then some (decide (a1<=y3.2.2.1)) else some false:Option (Bool)).bind fun x4=> bif x4 then bif decide (x0.1.length+([(y3.1,y3.2.1)]).length<=4294967296) then some (x0.1++([(y3.1,y3.2.1)])) else none else some x0.1:Option ((List aF))).bind fun x5=> self1 (x5,IntKind.wrap .i64 (x0.2+(1:Int))) else some x0.1) ([],(0:Int)):Option ((List aF))).bind fun x6=> some (x6,()):=by kernel_rfl
def QG:TC:=
 (zS [a_ 4] (zQ (.join [] 262128 (some [⟨4,[.b],false⟩]) (zS [bC 5] (.block 0 (.loop [⟨5,[.i .i64],false⟩] 262128 (zQ (zS [di 6 5 0,dW 8 7,d_ 9 6 8] (zC 9 .skip (.exit 0))) (zQ (.block 1 (zS [OJ 12 0 5 1,af 16 1,kP 17 15 16] (zC 17 (zS [gu 4] .ret) .skip))) (zR [eF 10 5 5]))))))) (zS [a_ 4] .ret)))
def aaN:aJ:=⟨[.rd false dY,.rd false [.d]],(.one false [.d])⟩
def QH:aH:=aA []
def QI (n:Nat):List Int × Int->Option ((Bool) × Unit):=aD n QH QG [[.sl [.i .i64]],[.i .i64]] [.b] [] [4] .no
def gP:=QI BIG
def pu:TSp:=⟨aaN,[[.sl [.i .i64]],[.i .i64]],[.b],[],Ou.j .no,gP⟩
theorem alD:aM PG QH 204 aaN (QG.ht 18) .no=some (QG.wc QH,[4]):=by kernel_rfl
theorem qD:pu.Ok PG 204:=aN (ak PG) alD (by kernel_rfl)
theorem alE (n) (a0) (a1):QI n (a0,a1) = (aI n (X:=Int) (B:=(Unit) ⊕ (Bool)) (fun self1 x0=> bif decide (x0<(a0.length:Int)) then bnd a0.length x0 fun n2=> a0[n2]?.bind fun y3=> bif decide (y3=a1) then some (Sum.inr true) else self1 (IntKind.wrap .i64 (x0+(1:Int))) else some (Sum.inl ())) (0:Int):Option ((Unit) ⊕ (Bool))).bind fun y=>match y with | .inl x4=> some (false,()) | .inr x4=> some (x4,()):=by kernel_rfl
def KM:TC:=
 (zS [iH 3 1] (zQ (.join [] 262128 (some [⟨4,[.b],false⟩]) (zS [bC 5] (.block 0 (.loop [⟨5,[.i .i64],false⟩] 262128 (zQ (zS [di 6 5 0,dW 8 7,d_ 9 6 8] (zC 9 .skip (.exit 0))) (zQ (.block 1 (zS [OM 12 0 5 2 2,bS 16 3 2,[o1 17 (.eqA [.i,.i] (.t 15) (.t 16) false)]] (zC 17 (zS [gu 4] .ret) .skip))) (zR [eF 10 5 5]))))))) (zS [a_ 4] .ret)))
def XK:aJ:=⟨[.rd false fJ,.rd true [.d,.d]],(.one false [.d])⟩
def KN:aH:=aA []
def Br (n:Nat):(List aF) × aF->Option ((Bool) × Unit):=aD n KN KM [[.sl [.i .i64,.i .i64]],[.i .i64,.i .i64]] [.b] [] [4] .no
def qE:=Br BIG
def wz:TSp:=⟨XK,[[.sl [.i .i64,.i .i64]],[.i .i64,.i .i64]],[.b],[],Ou.j .no,qE⟩
theorem ajp:aM PG KN 143 XK (KM.ht 18) .no=some (KM.wc KN,[4]):=by kernel_rfl
theorem xQ:wz.Ok PG 143:=aN (ak PG) ajp (by kernel_rfl)
theorem XL (n) (a0) (a1):Br n (a0,a1) = (aI n (X:=Int) (B:=(Unit) ⊕ (Bool)) (fun self1 x0=> bif decide (x0<(a0.length:Int)) then bnd a0.length x0 fun n2=> a0[n2]?.bind fun y3=> bif (decide (y3.1=a1.1)&&(decide (y3.2=a1.2)&&true)) then some (Sum.inr true) else self1 (IntKind.wrap .i64 (x0+(1:Int))) else some (Sum.inl ())) (0:Int):Option ((Unit) ⊕ (Bool))).bind fun y=>match y with | .inl x4=> some (false,()) | .inr x4=> some (x4,()):=by kernel_rfl
def Gw:TC:=
 (zS [tT 10,a_ 11] (zS [af 17 2,Ko 18 17,bH 18 12 18] (zS [cO 19 4,af 20 2,jy 21 19 20,zEb 4 19 4 0 1 0 21] (zQ (.join [⟨12,[.sl [.i .i64]],false⟩,⟨4,[.sl [.b]],false⟩] 147573952589672348688 (some [⟨10,[.sl [.i .i64]],false⟩,⟨11,[.b],false⟩,⟨4,[.sl [.b]],false⟩]) (zS [bC 13] (.block 0 (.loop [⟨12,[.sl [.i .i64]],false⟩,⟨4,[.sl [.b]],false⟩,⟨13,[.i .i64],false⟩] 147573952589674445840 (zQ (zS [OL 22 13 0] (zC 24 .skip (.exit 0))) (zQ (.join [⟨12,[.sl [.i .i64]],false⟩,⟨4,[.sl [.b]],false⟩] 147573952589542317072 (some [⟨10,[.sl [.i .i64]],false⟩,⟨11,[.b],false⟩,⟨4,[.sl [.b]],false⟩]) (.block 1 (zS [di 27 13 2,JB 29 27 28,l8 14 1000000015,cZ 14 14 29] (zQ (.join [⟨14,[.i .i64,.i .i64],false⟩] 67645751296 none (zS [OL 30 2 13] (zC 32 (zR [di 33 2 13,JB 35 33 34,cZ 14 14 35]) .skip))) (zQ (.seq (.join [⟨44,[.b],false⟩] 35115652612096 none (zR [di 36 13 3,kP 38 36 37,af 39 38,dw 40 1 3,Kw 41 14 2 3 143 40 3,nL 43 42 3 39])) (zC 44 (.exit 1) .skip)) (zQ (zS [cO 45 4,af 46 13,mM 47 45 46 4 1] (zC 48 (zS [om 12 49 12 10,gu 11] .ret) .skip)) (zS [di 51 0 1,di 53 13 2,cO 55 4,[⟨false,[],[],.call 2 207 [.t 51,.t 52,.t 53,.t 54,.t 55] (.mt 4 [] 0 55 4),[56,4,45,47,55],(some 56),none⟩],Bo 56 50 56 1 1,bH 57 15 57,af 16 58] (zQ (zS [af 59 16] (zC 59 (zS [om 12 60 12 10,gu 11] .ret) .skip)) (zR [bH 12 61 12,bH 15 62 15,wh 61 62 63 61,af 64 2,Ko 65 64,Kv 63 65 66 63 12]))))))))) (zR [yY 25 13,af 13 26]))))))) (zS [om 12 67 12 10,a_ 11] .ret)))))
def Gx:aJ:=⟨[.rd false [.d],.rd false fJ,.rd false [.d],.rd false [.d],.mt false dY],(.tup [(false,1),(false,1)] agj)⟩
def Gy (q:Int × (List aF) × Int × Int × List (Bool)->Option ((List Int × Bool) × List (Bool))):aH:=aA [(143,wz),(207,⟨Gx,[[.i .i64],[.sl [.i .i64,.i .i64]],[.i .i64],[.i .i64],[.sl [.b]]],[.sl [.i .i64],.b],[.sl [.b]],Ou.j (.mt 4 4 0),q⟩)]
def Gz (q:Int × (List aF) × Int × Int × List (Bool)->Option ((List Int × Bool) × List (Bool))) (n:Nat):Int × (List aF) × Int × Int × List (Bool)->Option ((List Int × Bool) × List (Bool)):=aD n (Gy q) Gw [[.i .i64],[.sl [.i .i64,.i .i64]],[.i .i64],[.i .i64],[.sl [.b]]] [.sl [.i .i64],.b] [.sl [.b]] [10,11] (.mt 4 4 0)
def rP:Nat->Int × (List aF) × Int × Int × List (Bool)->Option ((List Int × Bool) × List (Bool))
 | 0=>fun _=>none
 | d+1=>Gz (rP d) BIG
def Tx (d:Nat):TSp:=⟨Gx,[[.i .i64],[.sl [.i .i64,.i .i64]],[.i .i64],[.i .i64],[.sl [.b]]],[.sl [.i .i64],.b],[.sl [.b]],Ou.j (.mt 4 4 0),(rP d)⟩
theorem agB (q:Int × (List aF) × Int × Int × List (Bool)->Option ((List Int × Bool) × List (Bool))):aM PG (Gy q) 207 Gx (Gw.ht 68) (.mt 4 4 0)=some (Gw.wc (Gy q),[10,11]):=by kernel_rfl
theorem OV:∀d:Nat,(Tx d).Ok PG 207
 | 0=>fun _ _ _ h=>by cases h
 | d+1=>aN (aa xQ (aa (OV d) (ak PG))) (agB _) (by kernel_rfl)
theorem agC (q:Int × (List aF) × Int × Int × List (Bool)->Option ((List Int × Bool) × List (Bool))) (n) (a0) (a1) (a2) (a3) (a4):Gz q n (a0,a1,a2,a3,a4) =
 bnd a4.length a2 fun n0=>
 a4[n0]?.bind fun y1=>
 (aI n (X:=(List Int) × (List (Bool)) × Int) (B:=((List Int) × (List (Bool))) ⊕ ((List Int) × Bool × (List (Bool)))) (fun self3 x2=>
  bif decide (x2.2.2<a0) then
   ((bif decide (a2<x2.2.2) then
     some (a2,x2.2.2)
    else some (x2.2.2,a2):Option (aF)).bind fun x4=>
    (bif decide (x2.2.2=a3) then
     some true
     else (qE (a1,x4)).bind fun r5=>
     some !r5.1:Option (Bool)).bind fun x6=>
    bif x6 then
     some (Sum.inl (x2.1,x2.2.1))
    else bnd x2.2.1.length x2.2.2 fun n7=>
    x2.2.1[n7]?.bind fun y8=>
    bif y8 then
     some (Sum.inr (x2.1,true,x2.2.1))
    else (q (a0,a1,x2.2.2,a2,x2.2.1)).bind fun r9=>
    bif r9.1.2 then
     some (Sum.inr (x2.1,true,r9.2))
    else bif decide (x2.1.length+r9.1.1.length<=4294967296) then
     bif decide ((x2.1++r9.1.1).length+[a2].length<=4294967296) then
      some (Sum.inl ((x2.1++r9.1.1)++[a2],r9.2))
     else none
    else none:Option (((List Int) × (List (Bool))) ⊕ ((List Int) × Bool × (List (Bool))))).bind fun y=>match y with
   | .inl x10=>
    self3 (x10.1,x10.2,IntKind.wrap .i64 (x2.2.2+(1:Int)))
   | .inr x10=>
    some (Sum.inr (x10.1,x10.2.1,x10.2.2))
  else some (Sum.inl (x2.1,x2.2.1))) ([a2],a4.set n0 true,(0:Int)):Option (((List Int) × (List (Bool))) ⊕ ((List Int) × Bool × (List (Bool))))).bind fun y=>match y with
 | .inl x11=>
  some ((x11.1,false),x11.2)
 | .inr x11=>
  some ((x11.1,x11.2.1),x11.2.2):=by kernel_rfl
def KO:TC:=
 (zS [tT 6,a_ 7] (zQ (.seq (.join [⟨20,[.b],false⟩] 2095104 none (zR [af 11 0,lD 12 42 11 12,jg 13 12,dw 15 2 3,dw 16 0 3,zEf 17 16 3,zEg 42 15 0 17 18 18 3,nL 19 18 3 14])) (zC 20 (zS [v_ 21,bH 21 6 21,a_ 7] .ret) .skip)) (zQ (.join [] 68715282880 (some [⟨6,[.sl [.i .i64]],false⟩,⟨7,[.b],false⟩]) (zS [bC 8] (.block 0 (.loop [⟨8,[.i .i64],false⟩] 68715282880 (zQ (zS [JE 22 8 1] (zC 25 .skip (.exit 0))) (zQ (.block 1 (zS [di 28 0 1,af 30 8,jV 31 29 30 2 2,fG 33 128 28 32,gX 34 33] (zC 34 (zS [v_ 35,bH 35 6 35,a_ 7] .ret) .skip))) (zR [eF 26 8 8]))))))) (zS [di 37 0 1,di 39 2 0,[o1 41 (.make (.t 40) [.b]),⟨false,[],[],.call 2 207 [.t 37,.t 38,.t 39,kO (-1),.t 41] (.mt 41 [] 0 41 4),[42,41],(some 42),none⟩],Bo 42 36 42 1 1,bH 43 9 43,af 10 44] (zQ (zS [af 45 10] (zC 45 (zS [v_ 46,bH 46 6 46,a_ 7] .ret) .skip)) (zS [om 9 47 9 6,gu 7] .ret))))))
def XM:aJ:=⟨[.rd false [.d],.rd false fJ,.rd false [.d]],(.tup [(false,1),(false,1)] agj)⟩
def KP:aH:=aA [(42,dz),(128,wy),(207,Tx 64)]
def KQ (n:Nat):Int × (List aF) × Int->Option ((List Int × Bool) × Unit):=aD n KP KO [[.i .i64],[.sl [.i .i64,.i .i64]],[.i .i64]] [.sl [.i .i64],.b] [] [6,7] .no
def Bt:=KQ BIG
def XN:TSp:=⟨XM,[[.i .i64],[.sl [.i .i64,.i .i64]],[.i .i64]],[.sl [.i .i64],.b],[],Ou.j .no,Bt⟩
theorem ajq:aM PG KP 205 XM (KO.ht 48) .no=some (KO.wc KP,[6,7]):=by kernel_rfl
theorem agD:XN.Ok PG 205:=aN (aa cB (aa xO (aa (OV 64) (ak PG)))) ajq (by kernel_rfl)
theorem ajr (n) (a0) (a1) (a2):KQ n (a0,a1,a2) = ((bg (a0,(1:Int),(12:Int))).bind fun r0=> bif !r0.1 then some true else (bg (a2,(0:Int),IntKind.wrap .i64 (a0-(1:Int)))).bind fun r1=> some !r1.1:Option (Bool)).bind fun x2=> bif x2 then some (([],false),()) else (aI n (X:=Int) (B:=(Unit) ⊕ ((List Int) × Bool)) (fun self4 x3=> bif decide (x3<(a1.length:Int)) then bnd a1.length x3 fun n5=> a1[n5]?.bind fun y6=> (qC (a0,y6)).bind fun r7=> bif !r7.1 then some (Sum.inr ([],false)) else self4 (IntKind.wrap .i64 (x3+(1:Int))) else some (Sum.inl ())) (0:Int):Option ((Unit) ⊕ ((List Int) × Bool))).bind fun y=>match y with | .inl x8=> bif decide (0<=a0) then bif decide ((Int.toNat a0)<=4294967296) then (rP 64 (a0,a1,a2,(-1:Int),List.replicate (Int.toNat a0) false)).bind fun r9=> bif r9.1.2 then some (([],false),()) else some ((r9.1.1,true),()) else none else none | .inr x8=> some (x8,()):=by kernel_rfl
def CG:TC:=
 (zS [bM 2 0,zEh 4 1000000005,a_ 5] (zS [aW 12 2 0,[o1 14 (.build nR [(0,.t 13)])],zEh 6 1000000007,zEi 14 6 14 6 14 14] (zS [bS 15 2 2,af 16 1,fG 17 203 15 16,bH 17 7 17] (zQ (zS [aW 18 2 0,lD 20 42 19 12,gX 21 20] (zC 21 (zS [[o1 22 (.build nR [])],zEi 22 4 22 4 22 22,a_ 5] .ret) .skip)) (zS [v_ 23,bH 23 8 23] (zQ (.join [⟨4,nR,false⟩,⟨6,nR,false⟩] 9007199237967728 (some [⟨4,nR,false⟩,⟨5,[.b],false⟩]) (zS [bC 9] (.block 0 (.loop [⟨4,nR,false⟩,⟨6,nR,false⟩,⟨8,[.sl [.i .i64]],false⟩,⟨9,[.i .i64],false⟩] 9007199237967728 (zQ (zS [qA 24 9 2 0,d_ 27 24 26] (zC 27 .skip (.exit 0))) (zQ (.join [⟨4,nR,false⟩,⟨6,nR,false⟩,⟨8,[.sl [.i .i64]],false⟩] 9007198181002608 (some [⟨4,nR,false⟩,⟨5,[.b],false⟩]) (.block 1 (zQ (zS [cO 30 8,af 31 9,fG 32 204 30 31] (zC 32 (.exit 1) .skip)) (zS [aW 34 2 0,cO 36 7,af 37 9,Kt 38 205 35 36 37,Bo 38 33 38 1 1,bH 39 10 39,af 11 40] (zQ (zS [af 41 11,gX 42 41] (zC 42 (zS [[o1 43 (.build nR [])],zEi 43 4 43 4 43 43,a_ 5] .ret) .skip)) (zS [mO 44 6 1,zEk 10 10 46 10 46,[o1 47 (.sli [.sl [.i .i64]] [.t 46])],Kr 45 45 47 48 45 45 6 48,bO 49,rD 6 48 45 6 1 49 48] (zR [S_ 8 50 8 30 50,af 51 10,wh 50 51 52 50,S_ 52 8 52 30 8]))))))) (zR [eF 28 9 9]))))))) (zS [kU 53 6 2 4 4 6,gu 5] .ret)))))))
def OW:aJ:=⟨[.rd true qx,.rd false [.d]],(.tup [(true,2),(false,1)] [.d,.sl (.own none) [.sl (.ro []) [.d]],.d])⟩
def CJ:aH:=aA [(203,Tv),(42,dz),(204,pu),(205,XN)]
def CK (n:Nat):bK × Int->Option ((Int × List (List Int) × Bool) × Unit):=aD n CJ CG [bz,[.i .i64]] [.i .i64,.sl [.sl [.i .i64]],.b] [] [4,5] .no
def lK:=CK BIG
def oD:TSp:=⟨OW,[bz,[.i .i64]],[.i .i64,.sl [.sl [.i .i64]],.b],[],Ou.j .no,lK⟩
theorem acO:aM PG CJ 182 OW (CG.ht 54) .no=some (CG.wc CJ,[4,5]):=by kernel_rfl
theorem rQ:oD.Ok PG 182:=aN (aa acN (aa cB (aa qD (aa agD (ak PG))))) acO (by kernel_rfl)
theorem acP (n) (a0) (a1):CK n (a0,a1) =
 (Gv (a0,a1)).bind fun r0=>
 (bg (a0.1,(1:Int),(12:Int))).bind fun r1=>
 bif !r1.1 then
  some (((0:Int),[],false),())
 else (aI n (X:=uA × uA × (List Int) × Int) (B:=(uA × uA) ⊕ (uA × Bool)) (fun self3 x2=>
  bif decide (x2.2.2.2<a0.1) then
   ((gP (x2.2.2.1,x2.2.2.2)).bind fun r4=>
    bif r4.1 then
     some (Sum.inl (x2.1,x2.2.1,x2.2.2.1))
    else (Bt (a0.1,r0.1,x2.2.2.2)).bind fun r5=>
    bif !r5.1.2 then
     some (Sum.inr (((0:Int),[]),false))
    else bif decide (x2.2.1.2.length+[r5.1.1].length<=4294967296) then
     bif decide (x2.2.2.1.length+r5.1.1.length<=4294967296) then
      some (Sum.inl (x2.1,(x2.2.1.1,x2.2.1.2++[r5.1.1]),x2.2.2.1++r5.1.1))
     else none
    else none:Option ((uA × uA × (List Int)) ⊕ (uA × Bool))).bind fun y=>match y with
   | .inl x6=>
    self3 (x6.1,x6.2.1,x6.2.2,IntKind.wrap .i64 (x2.2.2.2+(1:Int)))
   | .inr x6=>
    some (Sum.inr (x6.1,x6.2))
  else some (Sum.inl (x2.1,x2.2.1))) (((0:Int),[]),(a0.1,[]),[],(0:Int)):Option ((uA × uA) ⊕ (uA × Bool))).bind fun y=>match y with
 | .inl x7=>
  some ((x7.2.1,x7.2.2,true),())
 | .inr x7=>
  some ((x7.1.1,x7.1.2,x7.2),()):=by kernel_rfl
def GA:TC:=
 (zS [tT 2] (zS [v_ 5,bH 5 3 5] (zQ (.join [⟨3,[.sl [.i .i64]],false⟩] 131032 none (zS [bC 4] (.block 0 (.loop [⟨3,[.sl [.i .i64]],false⟩,⟨4,[.i .i64],false⟩] 131032 (zQ (zS [af 6 4,zEn 7 6 12] (zC 7 .skip (.exit 0))) (zQ (.join [⟨3,[.sl [.i .i64]],false⟩] 130056 none (.block 1 (zS [di 10 0 4,fG 12 204 10 11] (zC 12 (zR [bH 3 13 3,af 14 4,Ko 15 14,Kv 13 15 16 13 3]) .skip)))) (zR [af 8 4,Be 9 8,af 4 9]))))))) (zS [om 3 17 3 2] .ret))))
def Ty:aJ:=⟨[.rd false dY],(.one false dY)⟩
def GD:aH:=aA [(204,pu)]
def GG (n:Nat):List (Int)->Option ((List Int) × Unit):=aD n GD GA [[.sl [.i .i64]]] [.sl [.i .i64]] [] [2] .no
def iA:=GG BIG
def rR:TSp:=⟨Ty,[[.sl [.i .i64]]],[.sl [.i .i64]],[],Ou.j .no,iA⟩
theorem agE:aM PG GD 186 Ty (GA.ht 18) .no=some (GA.wc GD,[2]):=by kernel_rfl
theorem vo:rR.Ok PG 186:=aN (aa qD (ak PG)) agE (by kernel_rfl)
theorem agF (n) (a0):GG n a0 = (aI n (X:=(List Int) × Int) (B:=(List Int)) (fun self1 x0=> bif decide (x0.2<(12:Int)) then ((gP (a0,x0.2)).bind fun r2=> bif r2.1 then bif decide (x0.1.length+[x0.2].length<=4294967296) then some (x0.1++[x0.2]) else none else some x0.1:Option ((List Int))).bind fun x3=> self1 (x3,IntKind.wrap .i64 (x0.2+(1:Int))) else some x0.1) ([],(0:Int)):Option ((List Int))).bind fun x4=> some (x4,()):=by kernel_rfl
def GH:TC:=
 (zS [a_ 2] (zS [af 6 0,zEo 7 6,yT 8 6 1 7,Ko 9 8,bH 9 3 9] (zS [af 10 0,zEo 11 10,yT 12 10 1 11,Ko 13 12,bH 13 4 13] (zQ (.join [⟨3,[.sl [.i .i64]],false⟩] 2305843009213677628 (some [⟨2,[.b],false⟩]) (zS [iq 5 1] (.block 0 (.loop [⟨3,[.sl [.i .i64]],false⟩,⟨4,[.sl [.i .i64]],false⟩,⟨5,[.i .i64],false⟩] 2305843009213677628 (zQ (zS [JE 14 5 0] (zC 17 .skip (.exit 0))) (zQ (.join [⟨3,[.sl [.i .i64]],false⟩,⟨4,[.sl [.i .i64]],false⟩] 2305843009212645404 (some [⟨2,[.b],false⟩]) (.block 1 (zQ (.seq (.join [⟨35,[.b],false⟩] 68718428160 none (zR [cO 20 3,dW 21 20,zAd 22 21 1,af 23 22,cK 24 0 3,cK 25 5 3,kT 26 24 25 3,tV 27 24 1 26 3,EY 3 28 28 3,EY 3 29 29 3,zEr 30 29 3,[o2 31 (.data (.bin .sub) [.t 30,kD 2]) 3 true],kT 32 28 31 3,tV 33 3 1 32 3,xu 34 27 33 3,lC 23 34 35])) (zC 35 (zS [cO 36 3,cO 37 3,dW 38 37,oh 39 38,[⟨true,[36],[],.det 2 (.res 36 none (some (.t 39))),[40,36,36,3,20,37],(some 40),none⟩,⟨false,[],[],.det 2 (.copy 40),[3,40,20,37,36],(some 3),none⟩]] (.exit 1)) .skip)) (zQ (zS [cO 41 4,OJ 42 0 5 1,fG 46 204 41 45] (zC 46 (zS [a_ 2] .ret) .skip)) (zS [S_ 4 47 4 41 47,OJ 48 0 5 1,Ko 52 51,wh 47 52 53 47,S_ 53 4 53 41 4] (zR [S_ 3 54 3 20 54,OJ 55 0 5 1,Ko 59 58,wh 54 59 60 54,S_ 60 3 60 20 3])))))) (zR [eF 18 5 5]))))))) (zS [bH 3 61 3,dW 62 61,fV 63 62 1,af 2 63] .ret)))))
def Tz:aJ:=⟨[.rd false dY],(.one false [.d])⟩
def GI:aH:=aA [(204,pu)]
def GJ (n:Nat):List (Int)->Option ((Bool) × Unit):=aD n GI GH [[.sl [.i .i64]]] [.b] [] [2] .no
def GK:=GJ BIG
def TA:TSp:=⟨Tz,[[.sl [.i .i64]]],[.b],[],Ou.j .no,GK⟩
theorem agG:aM PG GI 209 Tz (GH.ht 64) .no=some (GH.wc GI,[2]):=by kernel_rfl
theorem acQ:TA.Ok PG 209:=aN (aa qD (ak PG)) agG (by kernel_rfl)
theorem agH (n) (a0):GJ n a0 =
 bnd a0.length (0:Int) fun n0=>
 a0[n0]?.bind fun y1=>
 bnd a0.length (0:Int) fun n2=>
 a0[n2]?.bind fun y3=>
 (aI n (X:=(List Int) × (List Int) × Int) (B:=((List Int)) ⊕ (Bool)) (fun self5 x4=>
  bif decide (x4.2.2<(a0.length:Int)) then
   ((bif decide ((1:Int)<(x4.1.length:Int)) then
     bnd a0.length x4.2.2 fun n6=>
     a0[n6]?.bind fun y7=>
     bnd x4.1.length (IntKind.wrap .i64 ((x4.1.length:Int)-(2:Int))) fun n8=>
     x4.1[n8]?.bind fun y9=>
     some (decide (y7=y9))
    else some false:Option (Bool)).bind fun x10=>
    bif x10 then
     bif decide (0<=(IntKind.wrap .i64 ((x4.1.length:Int)-(1:Int)))) then
      bif decide (0<=(Int.toNat (IntKind.wrap .i64 ((x4.1.length:Int)-(1:Int))))/\(Int.toNat (IntKind.wrap .i64 ((x4.1.length:Int)-(1:Int))))<=x4.1.length) then
       some (Sum.inl (List.take ((Int.toNat (IntKind.wrap .i64 ((x4.1.length:Int)-(1:Int))))-0) (List.drop 0 x4.1),x4.2.1))
      else none
     else none
    else bnd a0.length x4.2.2 fun n11=>
    a0[n11]?.bind fun y12=>
    (gP (x4.2.1,y12)).bind fun r13=>
    bif r13.1 then
     some (Sum.inr false)
    else bnd a0.length x4.2.2 fun n14=>
    a0[n14]?.bind fun y15=>
    bif decide (x4.2.1.length+[y15].length<=4294967296) then
     bnd a0.length x4.2.2 fun n16=>
     a0[n16]?.bind fun y17=>
     bif decide (x4.1.length+[y17].length<=4294967296) then
      some (Sum.inl (x4.1++[y17],x4.2.1++[y15]))
     else none
    else none:Option (((List Int) × (List Int)) ⊕ (Bool))).bind fun y=>match y with
   | .inl x18=>
    self5 (x18.1,x18.2,IntKind.wrap .i64 (x4.2.2+(1:Int)))
   | .inr x18=>
    some (Sum.inr x18)
  else some (Sum.inl x4.1)) ([y1],[y3],(1:Int)):Option (((List Int)) ⊕ (Bool))).bind fun y=>match y with
 | .inl x19=>
  some (decide ((x19.length:Int)=(1:Int)),())
 | .inr x19=>
  some (x19,()):=by kernel_rfl
def KR:TC:=
 (zS [a_ 2] (zQ (zS [af 4 0,dW 5 4,lD 6 42 5 23,gX 7 6] (zC 7 (zS [a_ 2] .ret) .skip)) (zQ (.join [] 1048332 (some [⟨2,[.b],false⟩]) (zS [bC 3] (.block 0 (.loop [⟨3,[.i .i64],false⟩] 1048332 (zQ (zS [di 8 3 0,kw 10 9 8] (zC 11 .skip (.exit 0))) (zQ (.block 1 (zS [OJ 14 0 3 1,[o3 18 42 [.t 17,kO 0,kO 11]],gX 19 18] (zC 19 (zS [a_ 2] .ret) .skip))) (zR [eF 12 3 3]))))))) (zS [af 20 0,dH 21 209 20,af 2 21] .ret))))
def XO:aJ:=⟨[.rd false dY],(.one false [.d])⟩
def KS:aH:=aA [(42,dz),(209,TA)]
def KU (n:Nat):List (Int)->Option ((Bool) × Unit):=aD n KS KR [[.sl [.i .i64]]] [.b] [] [2] .no
def KV:=KU BIG
def XP:TSp:=⟨XO,[[.sl [.i .i64]]],[.b],[],Ou.j .no,KV⟩
theorem ajs:aM PG KS 208 XO (KR.ht 22) .no=some (KR.wc KS,[2]):=by kernel_rfl
theorem agI:XP.Ok PG 208:=aN (aa cB (aa acQ (ak PG))) ajs (by kernel_rfl)
theorem ajt (n) (a0):KU n a0 = (bg ((a0.length:Int),(1:Int),(23:Int))).bind fun r0=> bif !r0.1 then some (false,()) else (aI n (X:=Int) (B:=(Unit) ⊕ (Bool)) (fun self2 x1=> bif decide (x1<(a0.length:Int)) then bnd a0.length x1 fun n3=> a0[n3]?.bind fun y4=> (bg (y4,(0:Int),(11:Int))).bind fun r5=> bif !r5.1 then some (Sum.inr false) else self2 (IntKind.wrap .i64 (x1+(1:Int))) else some (Sum.inl ())) (0:Int):Option ((Unit) ⊕ (Bool))).bind fun y=>match y with | .inl x6=> (GK a0).bind fun r7=> some (r7.1,()) | .inr x6=> some (x6,()):=by kernel_rfl
def CL:TC:=
 (zS [iH 1 0] (zQ (.seq (.join [⟨17,[.b],false⟩] 261888 none (zR [eZ 8 1 0 8,lD 10 42 9 12,jg 11 10,gJ 13 4 1 1 4,OG 15 14 4,Xz 16 15 12 4,mK 12 16 17])) (zC 17 (zS [a_ 2] .ret) .skip)) (zS [bC 3] (zQ (.join [⟨3,[.i .i64],false⟩] 2475880078570760549797986556 (some [⟨2,[.b],false⟩]) (zS [bC 4] (.block 0 (.loop [⟨3,[.i .i64],false⟩,⟨4,[.i .i64],false⟩] 2475880078570760549797986556 (zQ (zS [qA 18 4 1 1,kw 21 20 18] (zC 22 .skip (.exit 0))) (zQ (.join [⟨3,[.i .i64],false⟩] 2475880078570760549764694252 (some [⟨2,[.b],false⟩]) (.block 1 (zQ (zS [aW 25 1 1,af 27 4,kv 28 26 27 1,dH 30 208 29,gX 31 30] (zC 31 (zS [a_ 2] .ret) .skip)) (zS [aW 32 1 1,af 34 4,kv 35 33 34 1,dH 37 186 36,bH 37 5 37] (zS [af 38 3,cO 39 5,dW 40 39,zAo 41 38 40,af 3 41] (zQ (.seq (.join [⟨69,[.b],false⟩] 1180591616319364792320 none (zR [cO 42 5,cO 43 5,dW 44 43,oh 45 44,mM 46 42 45 5 1,aW 48 1 0,zAC 50 47 49,af 51 50,dw 52 4 9,Xz 53 52 0 9,dw 54 53 9,gU 55 12 1 1,cK 57 4 12,EX 58 57 12,kT 59 56 58 12,tV 60 56 1 59 12,zEw 186 60 61 61 12,[o2 62 (.index 61 (kD 0)) 12 true],tV 63 61 1 62 12,EY 5 64 64 12,[o2 65 (.index 64 (kD 0)) 12 true],tV 66 5 1 65 12,zDD 67 63 66 12,xB 54 67 68 68 9 51])) (zC 69 (zS [a_ 2] .ret) .skip)) (zS [bC 6] (.block 2 (.loop [⟨6,[.i .i64],false⟩] 2475878897979139832386945220 (zQ (zS [OL 70 6 4] (zC 72 .skip (.exit 2))) (zQ (.join [] 2475842299638897592636539012 (some [⟨2,[.b],false⟩]) (.block 3 (zS [bC 7] (.block 4 (.loop [⟨7,[.i .i64],false⟩] 2475842299638897592636539012 (zQ (zS [af 75 7,cO 76 5,kw 77 76 75] (zC 78 .skip (.exit 4))) (zQ (.block 5 (zS [af 83 6,cO 86 5,af 87 7,aW 81 1 1,kv 84 82 83 1,mM 88 86 87 5 1,fG 90 204 85 89] (zC 90 (zS [a_ 2] .ret) .skip))) (zR [eF 79 7 7])))))))) (zR [eF 73 6 6])))))))))))) (zR [eF 23 4 4]))))))) (zS [qA 91 3 1 0,kP 94 91 93,af 2 94] .ret)))))
def OZ:aJ:=⟨[.rd true [.d,.sl (.own none) dY]],(.one false [.d])⟩
def CO:aH:=aA [(42,dz),(208,XP),(186,rR),(204,pu)]
def CP (n:Nat):uA->Option ((Bool) × Unit):=aD n CO CL [nR] [.b] [] [2] .no
def CQ:=CP BIG
def O0:TSp:=⟨OZ,[nR],[.b],[],Ou.j .no,CQ⟩
theorem acR:aM PG CO 206 OZ (CL.ht 95) .no=some (CL.wc CO,[2]):=by kernel_rfl
theorem aaO:O0.Ok PG 206:=aN (aa cB (aa agI (aa vo (aa qD (ak PG))))) acR (by kernel_rfl)
theorem acT (n) (a0):CP n a0 =
 ((bg (a0.1,(1:Int),(12:Int))).bind fun r0=>
  bif !r0.1 then
   some true
  else some (decide ((12:Int)<(a0.2.length:Int))):Option (Bool)).bind fun x1=>
 bif x1 then
  some (false,())
 else (aI n (X:=Int × Int) (B:=(Int) ⊕ (Bool)) (fun self3 x2=>
  bif decide (x2.2<(a0.2.length:Int)) then
   (bnd a0.2.length x2.2 fun n4=>
    a0.2[n4]?.bind fun y5=>
    (KV y5).bind fun r6=>
    bif !r6.1 then
     some (Sum.inr false)
    else bnd a0.2.length x2.2 fun n7=>
    a0.2[n7]?.bind fun y8=>
    (iA y8).bind fun r9=>
    (bnd r9.1.length (IntKind.wrap .i64 ((r9.1.length:Int)-(1:Int))) fun n10=>
     r9.1[n10]?.bind fun y11=>
     bif decide (a0.1<=y11) then
      some true
     else bif decide ((0:Int)<x2.2) then
      bnd a0.2.length (IntKind.wrap .i64 (x2.2-(1:Int))) fun n12=>
      a0.2[n12]?.bind fun y13=>
      (iA y13).bind fun r14=>
      bnd r14.1.length (0:Int) fun n15=>
      r14.1[n15]?.bind fun y16=>
      bnd r9.1.length (0:Int) fun n17=>
      r9.1[n17]?.bind fun y18=>
      some (decide (y18<=y16))
     else some false:Option (Bool)).bind fun x19=>
    bif x19 then
     some (Sum.inr false)
    else aI n (X:=Int) (B:=(Int) ⊕ (Bool)) (fun self21 x20=>
     bif decide (x20<x2.2) then
      (aI n (X:=Int) (B:=(Unit) ⊕ (Bool)) (fun self23 x22=>
       bif decide (x22<(r9.1.length:Int)) then
        bnd a0.2.length x20 fun n24=>
        a0.2[n24]?.bind fun y25=>
        bnd r9.1.length x22 fun n26=>
        r9.1[n26]?.bind fun y27=>
        (gP (y25,y27)).bind fun r28=>
        bif r28.1 then
         some (Sum.inr false)
        else self23 (IntKind.wrap .i64 (x22+(1:Int)))
       else some (Sum.inl ())) (0:Int):Option ((Unit) ⊕ (Bool))).bind fun y=>match y with
      | .inl x29=>
       self21 (IntKind.wrap .i64 (x20+(1:Int)))
      | .inr x29=>
       some (Sum.inr x29)
     else some (Sum.inl (IntKind.wrap .i64 (x2.1+(r9.1.length:Int))))) (0:Int):Option ((Int) ⊕ (Bool))).bind fun y=>match y with
   | .inl x30=>
    self3 (x30,IntKind.wrap .i64 (x2.2+(1:Int)))
   | .inr x30=>
    some (Sum.inr x30)
  else some (Sum.inl x2.1)) ((0:Int),(0:Int)):Option ((Int) ⊕ (Bool))).bind fun y=>match y with
 | .inl x31=>
  some (decide (x31=a0.1),())
 | .inr x31=>
  some (x31,()):=by kernel_rfl
def KW:TC:=
 (zS [bM 2 0,bC 4] (zQ (zS [bS 6 2 2,dH 7 206 6,gX 8 7] (zC 8 (zS [zEx 4] .ret) .skip)) (zQ (.join [] 16776752 (some [⟨4,[.i .i64],false⟩]) (zS [bC 5] (.block 0 (.loop [⟨5,[.i .i64],false⟩] 16776752 (zQ (zS [qA 9 5 2 1,kw 12 11 9] (zC 13 .skip (.exit 0))) (zQ (.block 1 (zS [aW 16 2 1,af 18 5,kv 19 17 18 1,af 21 1,fG 22 204 20 21] (zC 22 (zS [af 23 5,af 4 23] .ret) .skip))) (zR [eF 14 5 5]))))))) (zS [zEx 4] .ret))))
def XQ:aJ:=⟨[.rd true [.d,.sl (.own none) dY],.rd false [.d]],(.one false [.d])⟩
def KX:aH:=aA [(206,O0),(204,pu)]
def KY (n:Nat):uA × Int->Option ((Int) × Unit):=aD n KX KW [nR,[.i .i64]] [.i .i64] [] [4] .no
def jY:=KY BIG
def wB:TSp:=⟨XQ,[nR,[.i .i64]],[.i .i64],[],Ou.j .no,jY⟩
theorem aju:aM PG KX 183 XQ (KW.ht 24) .no=some (KW.wc KX,[4]):=by kernel_rfl
theorem xR:wB.Ok PG 183:=aN (aa aaO (aa qD (ak PG))) aju (by kernel_rfl)
theorem ajv (n) (a0) (a1):KY n (a0,a1) = (CQ a0).bind fun r0=> bif !r0.1 then some ((-1:Int),()) else (aI n (X:=Int) (B:=(Unit) ⊕ (Int)) (fun self2 x1=> bif decide (x1<(a0.2.length:Int)) then bnd a0.2.length x1 fun n3=> a0.2[n3]?.bind fun y4=> (gP (y4,a1)).bind fun r5=> bif r5.1 then some (Sum.inr x1) else self2 (IntKind.wrap .i64 (x1+(1:Int))) else some (Sum.inl ())) (0:Int):Option ((Unit) ⊕ (Int))).bind fun y=>match y with | .inl x6=> some ((-1:Int),()) | .inr x6=> some (x6,()):=by kernel_rfl
def QJ:TC:=
 (zS [iH 1 0] (zQ (zS [tX 12 1 2 123,dH 14 127 13,gX 15 14] (zC 15 (zS [a_ 2] .ret) .skip)) (zQ (.join [] 2147418124 (some [⟨2,[.b],false⟩]) (zS [bC 3] (.block 0 (.loop [⟨3,[.i .i64],false⟩] 2147418124 (zQ (zS [qA 16 3 1 1,kw 19 18 16] (zC 20 .skip (.exit 0))) (zQ (.block 1 (zS [aW 23 1 1,af 25 3,l9 26 24 25,OD 28 24 4 2 27,[o3 29 42 [.t 28,kO 0,kO 4]],gX 30 29] (zC 30 (zS [a_ 2] .ret) .skip))) (zR [eF 21 3 3]))))))) (zS [aW 31 1 0,af 4 32] (zQ (.join [] 1267650600228229401488113274868 (some [⟨2,[.b],false⟩]) (zS [bC 5] (.block 2 (.loop [⟨4,[.i .i64],false⟩,⟨5,[.i .i64],false⟩] 1267650600228229401488113274868 (zQ (zS [af 33 5,zAy 34 33 4] (zC 34 .skip (.exit 2))) (zQ (.join [⟨4,[.i .i64],false⟩] 1267650600228229401359264255956 (some [⟨2,[.b],false⟩]) (.block 3 (zS [bS 38 1 2,af 39 5,fG 40 182 38 39,Bo 40 37 40 2 2,zEh 6 1000000007,oq 6 41 6 41] (zQ (zS [af 43 7,gX 44 43] (zC 44 (zS [a_ 2] .ret) .skip)) (zQ (.join [] 73786941110466118404 (some [⟨2,[.b],false⟩]) (zS [bC 8] (.block 4 (.loop [⟨8,[.i .i64],false⟩] 73786941110466118404 (zQ (zS [af 45 8,mO 46 6 1,kw 48 47 45] (zC 49 .skip (.exit 4))) (zQ (.join [] 73782472695210836484 (some [⟨2,[.b],false⟩]) (.block 5 (zS [mO 52 6 1,af 54 8,Bp 55 53 54 6 1 1,dH 57 186 56,dW 58 57,af 9 58] (zQ (.join [⟨65,[.b],false⟩] 73210515542534782976 none (zR [af 59 9,zAd 60 59 1,af 61 60,cK 62 9 2,cK 63 4 2,[o2 64 (.data (.bin .gtr) [.t 62,.t 63]) 2 true],lC 61 64 65])) (zC 65 (zS [a_ 2] .ret) .skip))))) (zR [eF 50 8 8]))))))) (zQ (.join [] 316912649983270374079337597956 (some [⟨2,[.b],false⟩]) (zS [bC 10] (.block 6 (.loop [⟨10,[.i .i64],false⟩] 316912649983270374079337597956 (zQ (zS [qA 66 10 1 1,kw 69 68 66] (zC 70 .skip (.exit 6))) (zQ (.join [] 316912640612324384634885376004 (some [⟨2,[.b],false⟩]) (.block 7 (zS [aW 73 1 1,af 75 10,jV 76 74 75 4 4,OE 11 1000000012,cZ 11 11 77] (zQ (.join [⟨97,[.b],false⟩] 316912347825602446716882124800 none (zR [aW 78 11 3,jg 80 79,nM 82 3 11 2 3,cK 84 5 3,xu 85 83 84 3,iT 81 85 86,zEz 88 6 2 9,jA 89 9,l6 90 11 0 89 9,l7 183 88 90 91 91 9,zEz 92 6 2 9,jA 93 9,l6 94 11 1 93 9,l7 183 92 94 95 95 9,zEA 96 91 95 9,lC 87 96 97])) (zC 97 (zS [a_ 2] .ret) .skip))))) (zR [yY 71 10,af 10 72]))))))) (zR [af 98 4,[o1 99 (.data (.bin .quo) [.t 98,kD 2])],af 4 99]))))))) (zR [eF 35 5 5]))))))) (zS [gu 2] .ret))))))
def aaP:aJ:=⟨[.rd true qx],(.one false [.d])⟩
def QK:aH:=aA [(123,rH),(127,rO),(42,dz),(182,oD),(186,rR),(183,wB)]
def QL (n:Nat):bK->Option ((Bool) × Unit):=aD n QK QJ [bz] [.b] [] [2] .no
def uB:=QL BIG
def zg:TSp:=⟨aaP,[bz],[.b],[],Ou.j .no,uB⟩
theorem alF:aM PG QK 180 aaP (QJ.ht 100) .no=some (QJ.wc QK,[2]):=by kernel_rfl
theorem Bu:zg.Ok PG 180:=aN (aa vg (aa vk (aa cB (aa rQ (aa vo (aa xR (ak PG))))))) alF (by kernel_rfl)
theorem alG (n) (a0):QL n a0 =
 (iZ a0).bind fun r0=>
 (nC r0.1).bind fun r1=>
 bif !r1.1 then
  some (false,())
 else (aI n (X:=Int) (B:=(Unit) ⊕ (Bool)) (fun self3 x2=>
  bif decide (x2<(a0.2.length:Int)) then
   bnd a0.2.length x2 fun n4=>
   a0.2[n4]?.bind fun y5=>
   (bg (y5.2.2.1,(0:Int),(4:Int))).bind fun r6=>
   bif !r6.1 then
    some (Sum.inr false)
   else self3 (IntKind.wrap .i64 (x2+(1:Int)))
  else some (Sum.inl ())) (0:Int):Option ((Unit) ⊕ (Bool))).bind fun y=>match y with
 | .inl x7=>
  (aI n (X:=Int × Int) (B:=(Unit) ⊕ (Bool)) (fun self9 x8=>
   bif decide (x8.2<=(4:Int)) then
    ((lK (a0,x8.2)).bind fun r10=>
     bif !r10.1.2.2 then
      some (Sum.inr false)
     else (aI n (X:=Int) (B:=(Unit) ⊕ (Bool)) (fun self12 x11=>
      bif decide (x11<(r10.1.2.1.length:Int)) then
       (bnd r10.1.2.1.length x11 fun n13=>
        r10.1.2.1[n13]?.bind fun y14=>
        (iA y14).bind fun r15=>
        (bif decide ((1:Int)<(r15.1.length:Int)) then
         some (decide (x8.1<(r15.1.length:Int)))
         else some false:Option (Bool)).bind fun x16=>
        bif x16 then
         some (Sum.inr false)
        else some (Sum.inl ()):Option ((Unit) ⊕ (Bool))).bind fun y=>match y with
       | .inl x17=>
        self12 (IntKind.wrap .i64 (x11+(1:Int)))
       | .inr x17=>
        some (Sum.inr x17)
      else some (Sum.inl ())) (0:Int):Option ((Unit) ⊕ (Bool))).bind fun y=>match y with
     | .inl x18=>
      (aI n (X:=Int) (B:=(Unit) ⊕ (Bool)) (fun self20 x19=>
       bif decide (x19<(a0.2.length:Int)) then
        (bnd a0.2.length x19 fun n21=>
         a0.2[n21]?.bind fun y22=>
         (bif !y22.2.2.2 then
          bif decide (y22.2.2.1=x8.2) then
           (jY ((r10.1.1,r10.1.2.1),y22.1)).bind fun r23=>
           (jY ((r10.1.1,r10.1.2.1),y22.2.1)).bind fun r24=>
           some (!decide (r23.1=r24.1))
          else some false
          else some false:Option (Bool)).bind fun x25=>
         bif x25 then
          some (Sum.inr false)
         else some (Sum.inl ()):Option ((Unit) ⊕ (Bool))).bind fun y=>match y with
        | .inl x26=>
         self20 (IntKind.wrap .i64 (x19+(1:Int)))
        | .inr x26=>
         some (Sum.inr x26)
       else some (Sum.inl ())) (0:Int):Option ((Unit) ⊕ (Bool))).bind fun y=>match y with
      | .inl x27=>
       bif decide ((2:Int)=0) then
        none
       else some (Sum.inl (IntKind.wrap .i64 (Int.tdiv x8.1 (2:Int))))
      | .inr x27=>
       some (Sum.inr x27)
     | .inr x18=>
      some (Sum.inr x18):Option ((Int) ⊕ (Bool))).bind fun y=>match y with
    | .inl x28=>
     self9 (x28,IntKind.wrap .i64 (x8.2+(1:Int)))
    | .inr x28=>
     some (Sum.inr x28)
   else some (Sum.inl ())) (a0.1,(0:Int)):Option ((Unit) ⊕ (Bool))).bind fun y=>match y with
  | .inl x29=>
   some (true,())
  | .inr x29=>
   some (x29,())
 | .inr x7=>
  some (x7,()):=by kernel_rfl
def rT:TC:=
 (zS [a_ 4] (zQ (zS [af 6 0,dW 7 6,af 8 1,dW 9 8,xw 10 7 9] (zC 10 (zS [a_ 4] .ret) .skip)) (zQ (.join [] 67106864 (some [⟨4,[.b],false⟩]) (zS [bC 5] (.block 0 (.loop [⟨5,[.i .i64],false⟩] 67106864 (zQ (zS [JE 11 5 0] (zC 14 .skip (.exit 0))) (zQ (.block 1 (zS [di 17 0 5,di 21 1 5,jV 19 17 18 2 2,jV 23 21 22 2 2,zEC 25 20 24] (zC 25 (zS [a_ 4] .ret) .skip))) (zR [eF 15 5 5]))))))) (zS [gu 4] .ret))))
def Bv:aJ:=⟨[.rd false fJ,.rd false fJ],(.one false [.d])⟩
def rU:aH:=aA []
def rV (n:Nat):(List aF) × (List aF)->Option ((Bool) × Unit):=aD n rU rT [[.sl [.i .i64,.i .i64]],[.sl [.i .i64,.i .i64]]] [.b] [] [4] .no
def mf:=rV BIG
def rW:TSp:=⟨Bv,[[.sl [.i .i64,.i .i64]],[.sl [.i .i64,.i .i64]]],[.b],[],Ou.j .no,mf⟩
theorem TB:aM PG rU 202 Bv (rT.ht 26) .no=some (rT.wc rU,[4]):=by kernel_rfl
theorem zh:rW.Ok PG 202:=aN (ak PG) TB (by kernel_rfl)
theorem TD (n) (a0) (a1):rV n (a0,a1) = bif !decide ((a0.length:Int)=(a1.length:Int)) then some (false,()) else (aI n (X:=Int) (B:=(Unit) ⊕ (Bool)) (fun self1 x0=> bif decide (x0<(a0.length:Int)) then bnd a0.length x0 fun n2=> a0[n2]?.bind fun y3=> bnd a1.length x0 fun n4=> a1[n4]?.bind fun y5=> bif !(decide (y3.1=y5.1)&&(decide (y3.2=y5.2)&&true)) then some (Sum.inr false) else self1 (IntKind.wrap .i64 (x0+(1:Int))) else some (Sum.inl ())) (0:Int):Option ((Unit) ⊕ (Bool))).bind fun y=>match y with | .inl x6=> some (true,()) | .inr x6=> some (x6,()):=by kernel_rfl
def uC:TC:=
 (zS [a_ 4] (zQ (zS [af 6 0,dW 7 6,af 8 1,dW 9 8,xw 10 7 9] (zC 10 (zS [a_ 4] .ret) .skip)) (zQ (.join [] 67106864 (some [⟨4,[.b],false⟩]) (zS [bC 5] (.block 0 (.loop [⟨5,[.i .i64],false⟩] 67106864 (zQ (zS [JE 11 5 0] (zC 14 .skip (.exit 0))) (zQ (.block 1 (zS [di 17 0 5,di 21 1 5,kv 19 17 18 1,kv 23 21 22 1,xw 25 20 24] (zC 25 (zS [a_ 4] .ret) .skip))) (zR [eF 15 5 5]))))))) (zS [gu 4] .ret))))
def E9:aJ:=⟨[.rd false dY,.rd false dY],(.one false [.d])⟩
def uD:aH:=aA []
def nD (n:Nat):List Int × List (Int)->Option ((Bool) × Unit):=aD n uD uC [[.sl [.i .i64]],[.sl [.i .i64]]] [.b] [] [4] .no
def nE:=nD BIG
def uE:TSp:=⟨E9,[[.sl [.i .i64]],[.sl [.i .i64]]],[.b],[],Ou.j .no,nE⟩
theorem VG:aM PG uD 181 E9 (uC.ht 26) .no=some (uC.wc uD,[4]):=by kernel_rfl
theorem Bw:uE.Ok PG 181:=aN (ak PG) VG (by kernel_rfl)
theorem E_ (n) (a0) (a1):nD n (a0,a1) = bif !decide ((a0.length:Int)=(a1.length:Int)) then some (false,()) else (aI n (X:=Int) (B:=(Unit) ⊕ (Bool)) (fun self1 x0=> bif decide (x0<(a0.length:Int)) then bnd a0.length x0 fun n2=> a0[n2]?.bind fun y3=> bnd a1.length x0 fun n4=> a1[n4]?.bind fun y5=> bif !decide (y3=y5) then some (Sum.inr false) else self1 (IntKind.wrap .i64 (x0+(1:Int))) else some (Sum.inl ())) (0:Int):Option ((Unit) ⊕ (Bool))).bind fun y=>match y with | .inl x6=> some (true,()) | .inr x6=> some (x6,()):=by kernel_rfl
def pz:TC:=
 (zS [bM 2 0,iH 3 1] (zQ (.join [⟨4,[.b],false⟩] 2147483632 none (zR [eZ 5 2 0 5,eZ 7 3 0 7,kP 9 6 8,ow 10 9 5 2 1 5,nM 13 5 3 1 5,[o2 15 (.data (.beq false) [.t 12,.t 14]) 5 true],iT 10 15 16,gU 18 12 2 2,gU 20 12 3 2,l7 202 19 21 22 22 12,iT 17 22 23,gU 25 19 2 3,gU 27 19 3 3,l7 181 26 28 29 29 19,jW 24 29 30 4])) .ret))
def zi:aJ:=⟨[.rd true JA,.rd true JA],(.one false [.d])⟩
def pE:aH:=aA [(202,rW),(181,uE)]
def pF (n:Nat):ko × ko->Option ((Bool) × Unit):=aD n pE pz [eX,eX] [.b] [] [4] .no
def pG:=pF BIG
def zk:TSp:=⟨zi,[eX,eX],[.b],[],Ou.j .no,pG⟩
theorem QM:aM PG pE 169 zi (pz.ht 31) .no=some (pz.wc pE,[4]):=by kernel_rfl
theorem Oq:zk.Ok PG 169:=aN (aa zh (aa Bw (ak PG))) QM (by kernel_rfl)
theorem QN (n) (a0) (a1):pF n (a0,a1) = (bif decide (a0.1=a1.1) then bif (a0.2.1 == a1.2.1) then (mf (a0.2.2.1,a1.2.2.1)).bind fun r0=> bif r0.1 then (nE (a0.2.2.2,a1.2.2.2)).bind fun r1=> some r1.1 else some false else some false else some false:Option (Bool)).bind fun x2=> some (x2,()):=by kernel_rfl
def CR:TC:=
 (zS [iH 1 0] (zS [bS 3 1 4,zED 4,fG 5 169 3 4,af 2 5] .ret))
def O1:aJ:=⟨[.rd true JA],(.one false [.d])⟩
def CS:aH:=aA [(169,zk)]
def CU (n:Nat):ko->Option ((Bool) × Unit):=aD n CS CR [eX] [.b] [] [2] .no
def CV:=CU BIG
def O3:TSp:=⟨O1,[eX],[.b],[],Ou.j .no,CV⟩
theorem acU:aM PG CS 96 O1 (CR.ht 6) .no=some (CR.wc CS,[2]):=by kernel_rfl
theorem aaQ:O3.Ok PG 96:=aN (aa Oq (ak PG)) acU (by kernel_rfl)
theorem acV (n) (a0):CU n a0 = (pG (a0,((0:Int),false,[],[]))).bind fun r0=> some (r0.1,()):=by kernel_rfl
def zl:TC:=
 (zS [a_ 4] (zQ (zS [af 6 1,dW 7 6,af 8 0,xw 9 7 8] (zC 9 (zS [a_ 4] .ret) .skip)) (zQ (.join [] 68719475760 (some [⟨4,[.b],false⟩]) (zS [bC 5] (.block 0 (.loop [⟨5,[.i .i64],false⟩] 68719475760 (zQ (zS [OL 10 5 0] (zC 12 .skip (.exit 0))) (zQ (.join [] 68719443984 (some [⟨4,[.b],false⟩]) (.block 1 (zQ (.join [⟨35,[.b],false⟩] 68719443968 none (zR [di 15 1 5,af 19 5,kv 17 15 16 1,OH 20 42 18 19,jg 21 20,dw 23 1 7,dw 24 1 7,dw 25 5 7,Ku 26 24 25 7,Ta 27 24 1 26 7,Ku 28 23 27 7,Ta 29 23 1 28 7,dw 30 1 7,dw 31 5 7,Ku 32 30 31 7,Ta 33 30 1 32 7,xy 34 29 33 7,mK 22 34 35])) (zC 35 (zS [a_ 4] .ret) .skip)))) (zR [eF 13 5 5]))))))) (zS [gu 4] .ret))))
def KZ:aJ:=⟨[.rd false [.d],.rd false dY],(.one false [.d])⟩
def zm:aH:=aA [(42,dz)]
def zn (n:Nat):Int × List (Int)->Option ((Bool) × Unit):=aD n zm zl [[.i .i64],[.sl [.i .i64]]] [.b] [] [4] .no
def rX:=zn BIG
def zo:TSp:=⟨KZ,[[.i .i64],[.sl [.i .i64]]],[.b],[],Ou.j .no,rX⟩
theorem aaR:aM PG zm 140 KZ (zl.ht 36) .no=some (zl.wc zm,[4]):=by kernel_rfl
theorem JF:zo.Ok PG 140:=aN (aa cB (ak PG)) aaR (by kernel_rfl)
theorem aaS (n) (a0) (a1):zn n (a0,a1) =
 bif !decide ((a1.length:Int)=a0) then
  some (false,())
 else (aI n (X:=Int) (B:=(Unit) ⊕ (Bool)) (fun self1 x0=>
  bif decide (x0<a0) then
   ((bnd a1.length x0 fun n2=>
    a1[n2]?.bind fun y3=>
    (bg (y3,(0:Int),x0)).bind fun r4=>
    bif !r4.1 then
     some true
    else bnd a1.length x0 fun n5=>
    a1[n5]?.bind fun y6=>
    bnd a1.length y6 fun n7=>
    a1[n7]?.bind fun y8=>
    bnd a1.length x0 fun n9=>
    a1[n9]?.bind fun y10=>
    some (!decide (y8=y10)):Option (Bool)).bind fun x11=>
    bif x11 then
     some (Sum.inr false)
    else some (Sum.inl ()):Option ((Unit) ⊕ (Bool))).bind fun y=>match y with
   | .inl x12=>
    self1 (IntKind.wrap .i64 (x0+(1:Int)))
   | .inr x12=>
    some (Sum.inr x12)
  else some (Sum.inl ())) (0:Int):Option ((Unit) ⊕ (Bool))).bind fun y=>match y with
 | .inl x13=>
  some (true,())
 | .inr x13=>
  some (x13,()):=by kernel_rfl
def CW:TC:=
 (zS [iH 3 1] (zQ (.join [⟨4,[.b],false⟩] 16777200 none (zR [af 5 0,lD 6 42 5 12,af 7 6,jA 8 2,l6 9 3 0 8 2,zGd 42 9 10 10 2,iT 7 10 11,cK 13 0 7,nM 14 7 3 2 7,l7 139 13 15 16 16 7,iT 12 16 17,cK 19 0 13,gU 20 13 3 3,l7 140 19 21 22 22 13,jW 18 22 23 4])) .ret))
def O4:aJ:=⟨[.rd false [.d],.rd true JA],(.one false [.d])⟩
def CX:aH:=aA [(42,dz),(139,oC),(140,zo)]
def CY (n:Nat):Int × ko->Option ((Bool) × Unit):=aD n CX CW [[.i .i64],eX] [.b] [] [4] .no
def vw:=CY BIG
def CZ:TSp:=⟨O4,[[.i .i64],eX],[.b],[],Ou.j .no,vw⟩
theorem acW:aM PG CX 80 O4 (CW.ht 24) .no=some (CW.wc CX,[4]):=by kernel_rfl
theorem K3:CZ.Ok PG 80:=aN (aa cB (aa rM (aa JF (ak PG)))) acW (by kernel_rfl)
theorem acX (n) (a0) (a1):CY n (a0,a1) = ((bg (a0,(1:Int),(12:Int))).bind fun r0=> bif r0.1 then (bg (a1.1,(1:Int),(100000:Int))).bind fun r1=> bif r1.1 then (lJ (a0,a1.2.2.1)).bind fun r2=> bif r2.1 then (rX (a0,a1.2.2.2)).bind fun r3=> some r3.1 else some false else some false else some false:Option (Bool)).bind fun x4=> some (x4,()):=by kernel_rfl
def zq:TC:=
 (zS [bM 1 0,tT 2] (zS [v_ 7,bH 7 3 7] (zQ (zS [bS 8 1 2,dH 9 180 8,gX 10 9] (zC 10 (zS [om 3 11 3 2] .ret) .skip)) (zS [bS 13 1 2,zGe 14 182 13,Bo 14 12 14 2 2,zEh 4 1000000005,oq 4 15 4 15] (zQ (.join [⟨3,[.sl [.i .i64]],false⟩] 68719345736 none (zS [bC 6] (.block 0 (.loop [⟨3,[.sl [.i .i64]],false⟩,⟨6,[.i .i64],false⟩] 68719345736 (zQ (zS [qA 17 6 1 0,d_ 20 17 19] (zC 20 .skip (.exit 0))) (zQ (.block 1 (zR [bH 3 23 3,af 27 6,mO 24 4 1,gI 26 4 2,fG 28 183 26 27,Bp 29 25 28 4 1 1,dH 31 186 30,zEo 32 31,yT 33 31 1 32,Ko 34 33,Kv 23 34 35 23 3])) (zR [eF 21 6 6]))))))) (zS [om 3 36 3 2] .ret))))))
def K4:aJ:=⟨[.rd true qx],(.one false dY)⟩
def zt:aH:=aA [(180,zg),(182,oD),(183,wB),(186,rR)]
def zu (n:Nat):bK->Option ((List Int) × Unit):=aD n zt zq [bz] [.sl [.i .i64]] [] [2] .no
def mQ:=zu BIG
def zw:TSp:=⟨K4,[bz],[.sl [.i .i64]],[],Ou.j .no,mQ⟩
theorem aaT:aM PG zt 124 K4 (zq.ht 37) .no=some (zq.wc zt,[2]):=by kernel_rfl
theorem JG:zw.Ok PG 124:=aN (aa Bu (aa rQ (aa xR (aa vo (ak PG))))) aaT (by kernel_rfl)
theorem aaU (n) (a0):zu n a0 = (uB a0).bind fun r0=> bif !r0.1 then some ([],()) else (lK (a0,(0:Int))).bind fun r1=> (aI n (X:=(List Int) × Int) (B:=(List Int)) (fun self3 x2=> bif decide (x2.2<a0.1) then (jY ((r1.1.1,r1.1.2.1),x2.2)).bind fun r4=> bnd r1.1.2.1.length r4.1 fun n5=> r1.1.2.1[n5]?.bind fun y6=> (iA y6).bind fun r7=> bnd r7.1.length (0:Int) fun n8=> r7.1[n8]?.bind fun y9=> bif decide (x2.1.length+[y9].length<=4294967296) then self3 (x2.1++[y9],IntKind.wrap .i64 (x2.2+(1:Int))) else none else some x2.1) ([],(0:Int)):Option ((List Int))).bind fun x10=> some (x10,()):=by kernel_rfl
def GL:TC:=
 (zS [iH 1 0] (zQ (.seq (.join [⟨12,[.b],false⟩] 8184 none (zR [eZ 3 1 0 3,lD 5 42 4 3,gX 6 5,af 7 6,qz 8 4,zGf 9 1 1 8 2 4,EZ 180 9 10 10 4,nL 11 10 4 7])) (zC 12 (zS [a_ 2] .ret) .skip)) (zQ (.join [⟨2,[.b],false⟩] 8589926404 none (zR [bO 13,nK 14 1 3 13 4,dH 15 96 14,af 16 15,qz 17 3,rE 18 17 3,Bi 19 1 1 18 3,qz 20 3,zGf 21 1 3 20 4 3,yX 80 19 21 22 22 3,dw 23 22 3,jA 24 10,ol 25 24 10,l6 26 1 6 25 10,jA 27 10,zGk 28 1 1 27 2 10,zEw 124 28 29 29 10,l7 181 26 29 30 30 10,xB 23 30 31 31 3 16,af 2 32])) .ret)))
def TF:aJ:=⟨[.rd true EU],(.one false [.d])⟩
def GM:aH:=aA [(42,dz),(180,zg),(96,O3),(80,CZ),(124,zw),(181,uE)]
def GN (n:Nat):l_->Option ((Bool) × Unit):=aD n GM GL [fQ] [.b] [] [2] .no
def xS:=GN BIG
def TG:TSp:=⟨TF,[fQ],[.b],[],Ou.j .no,xS⟩
theorem agJ:aM PG GM 118 TF (GL.ht 33) .no=some (GL.wc GM,[2]):=by kernel_rfl
theorem acY:TG.Ok PG 118:=aN (aa cB (aa Bu (aa aaQ (aa K3 (aa JG (aa Bw (ak PG))))))) agJ (by kernel_rfl)
theorem agK (n) (a0):GN n a0 = ((bg (a0.1,(1:Int),(3:Int))).bind fun r0=> bif !r0.1 then some true else (uB (a0.2.1,a0.2.2.1)).bind fun r1=> some !r1.1:Option (Bool)).bind fun x2=> bif x2 then some (false,()) else ((CV a0.2.2.2).bind fun r3=> bif r3.1 then some true else (vw (a0.2.1,a0.2.2.2)).bind fun r4=> bif r4.1 then (mQ (a0.2.1,a0.2.2.1)).bind fun r5=> (nE (a0.2.2.2.2.2.2,r5.1)).bind fun r6=> some r6.1 else some false:Option (Bool)).bind fun x7=> some (x7,()):=by kernel_rfl
def GQ:TC:=
 (zS [iH 3 1] (zQ (.seq (.join [⟨26,[.b],false⟩] 134217696 none (zR [af 5 0,lD 6 42 5 12,gX 7 6,af 8 7,qz 9 3,Bi 10 3 0 9 3,Kq 42 10 100000 11 11 3,nO 12 11 3 8,gJ 15 9 3 1 9,Kq 42 16 4 17 17 9,nO 18 17 9 14,dw 21 0 15,xA 22 15 3 2,yX 139 21 23 24 24 15,nL 25 24 15 20])) (zC 26 (zS [a_ 4] .ret) .skip)) (zQ (zS [aW 27 3 1] (.block 0 (zS [fV 30 28 3,af 29 30] (zC 29 (zQ (.join [⟨4,[.b],false⟩] 4395899027472 none (zR [aW 31 3 2,dW 33 32,fV 34 33 0,ow 35 34 4 3 3 4,cK 38 0 4,EX 39 38 4,Xy 42 37 39 40 40 4,jW 35 40 41 4])) .ret) (zS [fV 43 28 4,af 42 43] (zC 42 (zQ (.join [⟨4,[.b],false⟩] 8989607068696592 none (zR [aW 44 3 2,dW 46 45,zAd 47 46 0,ow 48 47 4 3 3 4,OI 51 50 4,jW 48 51 52 4])) .ret) .skip)))))) (zQ (.join [⟨4,[.b],false⟩] 4602678819172646928 none (zR [aW 53 3 2,dW 55 54,fV 56 55 1,ow 57 56 4 3 3 4,OI 60 59 4,jW 57 60 61 4])) .ret))))
def TH:aJ:=⟨[.rd false [.d],.rd true Kn],(.one false [.d])⟩
def GR:aH:=aA [(42,dz),(139,oC)]
def GU (n:Nat):Int × y_->Option ((Bool) × Unit):=aD n GR GQ [[.i .i64],ib] [.b] [] [4] .no
def xU:=GU BIG
def GV:TSp:=⟨TH,[[.i .i64],ib],[.b],[],Ou.j .no,xU⟩
theorem agL:aM PG GR 119 TH (GQ.ht 62) .no=some (GQ.wc GR,[4]):=by kernel_rfl
theorem O5:GV.Ok PG 119:=aN (aa cB (aa rM (ak PG))) agL (by kernel_rfl)
theorem agM (n) (a0) (a1):GU n (a0,a1) = ((bg (a0,(1:Int),(12:Int))).bind fun r0=> bif !r0.1 then some true else (bg (a1.1,(1:Int),(100000:Int))).bind fun r1=> bif !r1.1 then some true else (bg (a1.2.1,(1:Int),(4:Int))).bind fun r2=> bif !r2.1 then some true else (lJ (a0,a1.2.2.1)).bind fun r3=> some !r3.1:Option (Bool)).bind fun x4=> bif x4 then some (false,()) else bif decide (a1.2.1=(3:Int)) then (bif decide ((a1.2.2.1.length:Int)=(0:Int)) then (bg (a1.2.2.2,(0:Int),IntKind.wrap .i64 (a0-(1:Int)))).bind fun r5=> some r5.1 else some false:Option (Bool)).bind fun x6=> some (x6,()) else bif decide (a1.2.1=(4:Int)) then (bif decide ((0:Int)<(a1.2.2.1.length:Int)) then some (decide (a1.2.2.2=(0:Int))) else some false:Option (Bool)).bind fun x7=> some (x7,()) else (bif decide ((a1.2.2.1.length:Int)=(1:Int)) then some (decide (a1.2.2.2=(0:Int))) else some false:Option (Bool)).bind fun x8=> some (x8,()):=by kernel_rfl
def pI:TC:=
 (zS [bM 1 0,zGn 2 1000000003] (zS [S9 3,eZ 4 1 2 4,wh 3 5 6 3,bO 7,Bj 6 2 7 6] (zS [v_ 8,eZ 9 1 3 9,wh 8 10 11 8,bO 12,Bj 11 3 12 11] (zS [kU 13 1 4 2 2 1] .ret))))
def zx:aJ:=⟨[.rd true JA],(.one true JA)⟩
def pJ:aH:=aA []
def pK (n:Nat):ko->Option (ko × Unit):=aD n pJ pI [eX] eX [] [2] .no
def ic:=pK BIG
def pM:TSp:=⟨zx,[eX],eX,[],Ou.j .no,ic⟩
theorem QO:aM PG pJ 120 zx (pI.ht 14) .no=some (pI.wc pJ,[2]):=by kernel_rfl
theorem xC:pM.Ok PG 120:=aN (ak PG) QO (by kernel_rfl)
theorem QP (n) (a0):pK n a0 = bif decide (0+a0.2.2.1.length<=4294967296) then bif decide (0+a0.2.2.2.length<=4294967296) then some ((a0.1,a0.2.1,[]++a0.2.2.1,[]++a0.2.2.2),()) else none else none:=by kernel_rfl
def GX:TC:=
 (zS [bM 1 0,zBE 2 1000000003] (zS [[o1 3 (.sli kM [])],bO 4,yU 5 4,iR 6 1 2 5,wh 3 6 7 3,bO 8,yU 9 8,Bj 7 2 9 7] (zS [bO 10,nK 11 1 3 10 4,dH 12 120 11,bO 13,Bj 12 3 13 12] (zS [kU 14 1 7 2 2 1] .ret))))
def TI:aJ:=⟨[.rd true EU],(.one true EU)⟩
def GY:aH:=aA [(120,pM)]
def GZ (n:Nat):l_->Option (l_ × Unit):=aD n GY GX [fQ] fQ [] [2] .no
def rY:=GZ BIG
def TJ:TSp:=⟨TI,[fQ],fQ,[],Ou.j .no,rY⟩
theorem agN:aM PG GY 115 TI (GX.ht 15) .no=some (GX.wc GY,[2]):=by kernel_rfl
theorem acZ:TJ.Ok PG 115:=aN (aa xC (ak PG)) agN (by kernel_rfl)
theorem agO (n) (a0):GZ n a0 = bif decide (0+a0.2.2.1.length<=4294967296) then (ic a0.2.2.2).bind fun r0=> some ((a0.1,a0.2.1,[]++a0.2.2.1,r0.1),()) else none:=by kernel_rfl
def G5:TC:=
 (zS [bM 2 0,iH 3 1] (zS [eZ 5 2 1 5,bS 7 3 2,fG 8 143 6 7,af 4 8] .ret))
def TK:aJ:=⟨[.rd true wN,.rd true [.d,.d]],(.one false [.d])⟩
def G6:aH:=aA [(143,wz)]
def G7 (n:Nat):jB × aF->Option ((Bool) × Unit):=aD n G6 G5 [eH,[.i .i64,.i .i64]] [.b] [] [4] .no
def rZ:=G7 BIG
def xV:TSp:=⟨TK,[eH,[.i .i64,.i .i64]],[.b],[],Ou.j .no,rZ⟩
theorem agP:aM PG G6 129 TK (G5.ht 9) .no=some (G5.wc G6,[4]):=by kernel_rfl
theorem C8:xV.Ok PG 129:=aN (aa xQ (ak PG)) agP (by kernel_rfl)
theorem agQ (n) (a0) (a1):G7 n (a0,a1) = (qE (a0.2,a1)).bind fun r0=> some (r0.1,()):=by kernel_rfl
def K5:TC:=
 (zS [bM 3 1,wm 4] (zS [S9 8,bH 8 5 8] (zQ (.join [⟨5,[.sl [.i .i64,.i .i64]],false⟩] 268435040 none (zS [bC 6] (.block 0 (.loop [⟨5,[.sl [.i .i64,.i .i64]],false⟩,⟨6,[.i .i64],false⟩] 268435040 (zQ (zS [di 9 6 0,kw 11 10 9] (zC 12 .skip (.exit 0))) (zQ (.join [⟨5,[.sl [.i .i64,.i .i64]],false⟩] 268402720 none (.block 1 (zS [OM 15 0 6 2 2,nN 19 3 2 187 18] (zC 20 (zR [bH 5 21 5,OM 22 0 6 2 2,E5 26 25 21 21 5]) .skip)))) (zR [eF 13 6 6]))))))) (zS [bH 5 28 5,bS 29 3 2,E5 30 29 28 28 5] (zQ (.join [⟨5,[.sl [.i .i64,.i .i64]],false⟩] 2251795518718112 none (zS [bC 7] (.block 2 (.loop [⟨5,[.sl [.i .i64,.i .i64]],false⟩,⟨7,[.i .i64],false⟩] 2251795518718112 (zQ (zS [JE 32 7 0] (zC 35 .skip (.exit 2))) (zQ (.join [⟨5,[.sl [.i .i64,.i .i64]],false⟩] 2251524935778336 none (.block 3 (zS [di 39 0 7,bS 38 3 2,jV 41 39 40 2 2,fG 43 187 38 42] (zC 43 (zR [bH 5 44 5,OM 45 0 7 2 2,E5 49 48 44 44 5]) .skip)))) (zR [eF 36 7 7]))))))) (zS [om 5 51 5 4] .ret))))))
def XR:aJ:=⟨[.rd false fJ,.rd true [.d,.d]],(.one false fJ)⟩
def K6:aH:=aA [(187,Gp)]
def K7 (n:Nat):(List aF) × aF->Option ((List aF) × Unit):=aD n K6 K5 [[.sl [.i .i64,.i .i64]],[.i .i64,.i .i64]] [.sl [.i .i64,.i .i64]] [] [4] .no
def wC:=K7 BIG
def Bz:TSp:=⟨XR,[[.sl [.i .i64,.i .i64]],[.i .i64,.i .i64]],[.sl [.i .i64,.i .i64]],[],Ou.j .no,wC⟩
theorem ajw:aM PG K6 130 XR (K5.ht 52) .no=some (K5.wc K6,[4]):=by kernel_rfl
theorem G8:Bz.Ok PG 130:=aN (aa OT (ak PG)) ajw (by kernel_rfl)
theorem ajx (n) (a0) (a1):K7 n (a0,a1) = (aI n (X:=(List aF) × Int) (B:=(List aF)) (fun self1 x0=> bif decide (x0.2<(a0.length:Int)) then (bnd a0.length x0.2 fun n2=> a0[n2]?.bind fun y3=> (rJ (y3,a1)).bind fun r4=> bif r4.1 then bnd a0.length x0.2 fun n5=> a0[n5]?.bind fun y6=> bif decide (x0.1.length+[y6].length<=4294967296) then some (x0.1++[y6]) else none else some x0.1:Option ((List aF))).bind fun x7=> self1 (x7,IntKind.wrap .i64 (x0.2+(1:Int))) else some x0.1) ([],(0:Int)):Option ((List aF))).bind fun x8=> bif decide (x8.length+[a1].length<=4294967296) then (aI n (X:=(List aF) × Int) (B:=(List aF)) (fun self10 x9=> bif decide (x9.2<(a0.length:Int)) then (bnd a0.length x9.2 fun n11=> a0[n11]?.bind fun y12=> (rJ (a1,y12)).bind fun r13=> bif r13.1 then bnd a0.length x9.2 fun n14=> a0[n14]?.bind fun y15=> bif decide (x9.1.length+[y15].length<=4294967296) then some (x9.1++[y15]) else none else some x9.1:Option ((List aF))).bind fun x16=> self10 (x16,IntKind.wrap .i64 (x9.2+(1:Int))) else some x9.1) (x8++[a1],(0:Int)):Option ((List aF))).bind fun x17=> some (x17,()) else none:=by kernel_rfl
def G9:TC:=
 (zS [bM 2 0,bM 3 1,Bh 4 1000000005,a_ 5] (zQ (.seq (.join [⟨20,[.b],false⟩] 2097088 none (zR [bS 6 2 2,dH 7 127 6,gX 8 7,af 9 8,gJ 10 3 2 0 3,Kw 12 3 2 3 128 11 3,nO 14 13 3 9,wu 17 2 2 10,wu 18 3 2 10,yX 129 17 18 19 19 10,mK 16 19 20])) (zC 20 (zS [zGp 21,ek 4 21 4 21,a_ 5] .ret) .skip)) (zS [ky 22 2 0 2 1,nN 26 3 2 130 25,zGq 23 27 28 27,ek 4 28 4 28,gu 5] .ret)))
def TL:aJ:=⟨[.rd true wN,.rd true [.d,.d]],(.tup [(true,2),(false,1)] Ct9)⟩
def G_:aH:=aA [(127,rO),(128,wy),(129,xV),(130,Bz)]
def Ha (n:Nat):jB × aF->Option (alz × Unit):=aD n G_ G9 [eH,[.i .i64,.i .i64]] VA [] [4,5] .no
def xW:=Ha BIG
def He:TSp:=⟨TL,[eH,[.i .i64,.i .i64]],VA,[],Ou.j .no,xW⟩
theorem agR:aM PG G_ 44 TL (G9.ht 29) .no=some (G9.wc G_,[4,5]):=by kernel_rfl
theorem O6:He.Ok PG 44:=aN (aa vk (aa xO (aa C8 (aa G8 (ak PG))))) agR (by kernel_rfl)
theorem agS (n) (a0) (a1):Ha n (a0,a1) = ((nC a0).bind fun r0=> bif !r0.1 then some true else (qC (a0.1,a1)).bind fun r1=> bif !r1.1 then some true else (rZ (a0,a1)).bind fun r2=> some r2.1:Option (Bool)).bind fun x3=> bif x3 then some (((0:Int),[],false),()) else (wC (a0.2,a1)).bind fun r4=> some ((a0.1,r4.1,true),()):=by kernel_rfl
def K8:TC:=
 (zS [bM 3 1,[o1 4 (.lit kK [.slice none 0 0])]] (zS [[o1 8 (.sli kM [])],bH 8 5 8] (zQ (.join [⟨5,kK,false⟩] 1125899906842208 none (zS [bC 6] (.block 0 (.loop [⟨5,kK,false⟩,⟨6,[.i .i64],false⟩] 1125899906842208 (zQ (zS [di 9 6 0,kw 11 10 9] (zC 12 .skip (.exit 0))) (zQ (.join [⟨5,kK,false⟩] 1125899906809888 none (.block 1 (zQ (.join [⟨42,[.b],false⟩] 8796092989440 none (zR [di 15 0 6,l9 17 15 16,yT 19 15 4 18,aW 20 3 0,d_ 22 19 21,af 23 22,dw 24 0 8,dw 25 6 8,Ku 26 24 25 8,rE 27 26 8,Ta 28 24 4 27 8,gJ 29 8 3 0 8,zDs 31 28 30 8,dw 32 31 8,cK 33 0 17,cK 34 6 17,kT 35 33 34 17,ol 36 35 17,zGr 37 33 4 1 36 17,gU 38 17 3 1,zDp 40 37 39 17,xB 32 40 41 41 8 23])) (zC 42 (zR [bH 5 43 5,OM 44 0 6 4 4,zGs 48 47,Kv 43 48 49 43 5]) .skip)))) (zR [eF 13 6 6]))))))) (zS [bH 5 50 5,bS 51 3 4,zGs 52 51,Kv 50 52 53 50 5] (zQ (.join [⟨5,kK,false⟩] 39614081257114154398262493344 none (zS [bC 7] (.block 2 (.loop [⟨5,kK,false⟩,⟨7,[.i .i64],false⟩] 39614081257114154398262493344 (zQ (zS [JE 54 7 0] (zC 57 .skip (.exit 2))) (zQ (.join [⟨5,kK,false⟩] 39614081255979247292165128224 none (.block 3 (zQ (.join [⟨87,[.b],false⟩] 309485008668423564117934080 none (zR [di 60 0 7,l9 62 60 61,yT 64 60 4 63,aW 65 3 0,[o1 67 (.data (.bin .gtr) [.t 64,.t 66])],af 68 67,dw 69 0 8,dw 70 7 8,Ku 71 69 70 8,rE 72 71 8,Ta 73 69 4 72 8,gJ 74 8 3 0 8,zDs 76 73 75 8,dw 77 76 8,cK 78 0 17,cK 79 7 17,kT 80 78 79 17,ol 81 80 17,zGr 82 78 4 1 81 17,gU 83 17 3 1,[o2 85 (.data (.bin .gtr) [.t 82,.t 84]) 17 true],xB 77 85 86 86 8 68])) (zC 87 (zR [bH 5 88 5,OM 89 0 7 4 4,zGs 93 92,Kv 88 93 94 88 5]) .skip)))) (zR [eF 58 7 7]))))))) (zS [om 5 95 5 4] .ret))))))
def XT:aJ:=⟨[.rd false [.sl (.own none) [.d,.d,.d,.d]],.rd true [.d,.d,.d,.d]],(.one false [.sl (.own none) [.d,.d,.d,.d]])⟩
def K9:aH:=aA []
def K_ (n:Nat):(List fA) × fA->Option ((List fA) × Unit):=aD n K9 K8 [kK,kM] kK [] [4] .no
def La:=K_ BIG
def XU:TSp:=⟨XT,[kK,kM],kK,[],Ou.j .no,La⟩
theorem ajy:aM PG K9 184 XT (K8.ht 96) .no=some (K8.wc K9,[4]):=by kernel_rfl
theorem agU:XU.Ok PG 184:=aN (ak PG) ajy (by kernel_rfl)
theorem ajz (n) (a0) (a1):K_ n (a0,a1) = (aI n (X:=(List fA) × Int) (B:=(List fA)) (fun self1 x0=> bif decide (x0.2<(a0.length:Int)) then ((bnd a0.length x0.2 fun n2=> a0[n2]?.bind fun y3=> bif decide (y3.1<a1.1) then some true else bnd a0.length x0.2 fun n4=> a0[n4]?.bind fun y5=> bif decide (y5.1=a1.1) then bnd a0.length x0.2 fun n6=> a0[n6]?.bind fun y7=> some (decide (y7.2.1<a1.2.1)) else some false:Option (Bool)).bind fun x8=> bif x8 then bnd a0.length x0.2 fun n9=> a0[n9]?.bind fun y10=> bif decide (x0.1.length+[y10].length<=4294967296) then some (x0.1++[y10]) else none else some x0.1:Option ((List fA))).bind fun x11=> self1 (x11,IntKind.wrap .i64 (x0.2+(1:Int))) else some x0.1) ([],(0:Int)):Option ((List fA))).bind fun x12=> bif decide (x12.length+[a1].length<=4294967296) then (aI n (X:=(List fA) × Int) (B:=(List fA)) (fun self14 x13=> bif decide (x13.2<(a0.length:Int)) then ((bnd a0.length x13.2 fun n15=> a0[n15]?.bind fun y16=> bif decide (a1.1<y16.1) then some true else bnd a0.length x13.2 fun n17=> a0[n17]?.bind fun y18=> bif decide (y18.1=a1.1) then bnd a0.length x13.2 fun n19=> a0[n19]?.bind fun y20=> some (decide (a1.2.1<y20.2.1)) else some false:Option (Bool)).bind fun x21=> bif x21 then bnd a0.length x13.2 fun n22=> a0[n22]?.bind fun y23=> bif decide (x13.1.length+[y23].length<=4294967296) then some (x13.1++[y23]) else none else some x13.1:Option ((List fA))).bind fun x24=> self14 (x24,IntKind.wrap .i64 (x13.2+(1:Int))) else some x13.1) (x12++[a1],(0:Int)):Option ((List fA))).bind fun x25=> some (x25,()) else none:=by kernel_rfl
def Lb:TC:=
 (zS [bM 2 0,bM 3 1,EW 4 1000000005,a_ 5] (zS [JD 1000000007 2 2 12 12,XA 1000000007 123 12 13 13,JD 1000000007 3 2 14 14,zGv 1000000007 44 13 14 15 15,zLd 1000000007 15 11 15 11,Bh 6 1000000007,oq 6 16 6 16] (zQ (.seq (.join [⟨24,[.b],false⟩] 33292288 none (zR [tX 18 2 2 180,jg 20 19,dw 22 7 3,nL 23 22 3 21])) (zC 24 (zS [zBC 25,ek 4 25 4 25,a_ 5] .ret) .skip)) (zS [bS 27 2 2,zGe 28 182 27,Bo 28 26 28 2 2,zEh 8 1000000009,oq 8 29 8 29] (zS [xz 1000000011 31 31 3 0,xz 1000000011 33 33 3 1,zGB 35 35,xz 1000000011 36 36 3 0,zGv 1000000011 183 35 37 38 38,zGB 39 39,xz 1000000011 40 40 3 1,zGv 1000000011 183 39 41 42 42,[⟨false,[],[1000000011],.det 1 (.data (.bin .neq) [.t 38,.t 42]),[43],(some 43),none⟩,⟨false,[],[1000000011],.det 1 (.build kM [(0,.t 32),(1,.t 34),(3,.t 43)]),[44],(some 44),none⟩],OE 10 1000000011,cZ 10 10 44] (zS [ky 45 2 0 2 1,nN 49 10 4 184 48,[o5 (.build bz [(0,.t 46),(1,.t 50)]) 51 50],ek 4 51 4 51,gu 5] .ret))))))
def XV:aJ:=⟨[.rd true qx,.rd true [.d,.d]],(.tup [(true,2),(false,1)] Ct5)⟩
def Lc:aH:=aA [(123,rH),(44,He),(180,zg),(182,oD),(183,wB),(184,XU)]
def Ld (n:Nat):bK × aF->Option (Zt9 × Unit):=aD n Lc Lb [bz,[.i .i64,.i .i64]] Vz [] [4,5] .no
def wD:=Ld BIG
def XW:TSp:=⟨XV,[bz,[.i .i64,.i .i64]],Vz,[],Ou.j .no,wD⟩
theorem ajA:aM PG Lc 121 XV (Lb.ht 52) .no=some (Lb.wc Lc,[4,5]):=by kernel_rfl
theorem agV:XW.Ok PG 121:=aN (aa vg (aa O6 (aa Bu (aa rQ (aa xR (aa agU (ak PG))))))) ajA (by kernel_rfl)
theorem ajB (n) (a0) (a1):Ld n (a0,a1) = (iZ a0).bind fun r0=> (xW (r0.1,a1)).bind fun r1=> ((uB a0).bind fun r2=> bif !r2.1 then some true else some !r1.1.2.2:Option (Bool)).bind fun x3=> bif x3 then some (((0:Int),[],false),()) else (lK (a0,(0:Int))).bind fun r4=> (jY ((r4.1.1,r4.1.2.1),a1.1)).bind fun r5=> (jY ((r4.1.1,r4.1.2.1),a1.2)).bind fun r6=> (La (a0.2,(a1.1,a1.2,(0:Int),!decide (r5.1=r6.1)))).bind fun r7=> some ((a0.1,r7.1,true),()):=by kernel_rfl
def zy:TC:=
 (zS [bM 3 0,bM 4 1,[o1 6 (.lit kK [.slice none 0 0])],bC 7] (zS [[o1 18 (.sli kM [])],aW 19 3 1,Kv 18 20 21 18 8] (zS [bS 23 3 2,af 24 2,fG 25 182 23 24,Bo 25 22 25 2 2,zEh 9 1000000010,oq 9 26 9 26] (zS [mO 28 9 1,gI 30 9 2,aW 31 4 0,fG 33 183 30 32,Bp 34 29 33 9 1 1,dH 36 186 35,bH 36 11 36] (zS [mO 37 9 1,gI 39 9 2,aW 40 4 1,fG 42 183 39 41,Bp 43 38 42 9 1 1,dH 45 186 44,bH 45 12 45] (zQ (.join [⟨11,[.sl [.i .i64]],false⟩] 4433230883198976 none (zS [cO 46 12,dW 47 46,cO 48 11,kw 49 48 47] (zC 50 (zR [S_ 12 51 12 46 51,S_ 51 11 51 48 11]) .skip))) (zS [eF 52 2 13] (zQ (.join [⟨13,[.i .i64],false⟩] 54043195528454144 none (zS [af 54 13,zAd 55 54 4] (zC 55 (zR [iq 13 4]) .skip))) (zQ (.join [⟨8,kK,false⟩] 1237940039213322680861212928 none (zS [bC 14] (.block 0 (.loop [⟨8,kK,false⟩,⟨14,[.i .i64],false⟩] 1237940039213322680861212928 (zQ (zS [af 56 14,cO 57 8,kw 58 57 56] (zC 59 .skip (.exit 0))) (zQ (.join [⟨8,kK,false⟩] 1237940034817809444547592448 none (.block 1 (zQ (.join [⟨84,[.b],false⟩] 38685621615982115163209728 none (zR [cO 62 8,af 63 14,l9 64 62 63,OD 66 8 4 3 65,af 67 66,EY 8 68 68 5,cK 69 14 5,kT 70 68 69 5,ol 71 70 5,zGr 72 8 4 2 71 5,cK 73 2 5,xu 74 72 73 5,iT 67 74 75,EY 11 77 77 14,EY 8 78 78 14,cK 79 14 14,kT 80 78 79 14,ol 81 80 14,tV 82 8 4 81 14,l7 204 77 82 83 83 14,lC 76 83 84])) (zC 84 (zR [cO 85 8,di 86 14 13,l9 88 85 86,[o4 1 [8,57,62,85] (.store 8 [(0,4)] 2 (.t 89) (.t 87))]]) .skip)))) (zR [yY 60 14,af 14 61]))))))) (zQ (.join [⟨8,kK,false⟩] 713623846352979939291202945439367293292478912 (some [⟨6,kK,false⟩,⟨7,[.i .i64],false⟩]) (zS [bC 15] (.block 2 (.loop [⟨8,kK,false⟩,⟨15,[.i .i64],false⟩] 713623846352979939291202945583482481368334784 (zQ (zS [af 90 15,cO 91 8,kw 92 91 90] (zC 93 .skip (.exit 2))) (zQ (.join [⟨8,kK,false⟩] 713623846352979863776860549031170524445868480 (some [⟨6,kK,false⟩,⟨7,[.i .i64],false⟩]) (.block 3 (zS [cO 96 11,cO 97 8,af 98 15,l9 99 97 98,yT 101 8 4 100,fG 102 204 96 101,af 16 102] (zS [cO 103 11,cO 104 8,af 105 15,l9 106 104 105,OD 108 8 4 1 107,fG 109 204 103 108,af 17 109] (zQ (.seq (.join [⟨133,[.b],false⟩] 21778070184865847027949067743009083228160 none (zR [aW 110 3 1,af 112 15,l9 113 111 112,OD 115 111 4 3 114,af 116 115,gJ 117 6 3 1 6,dw 119 15 6,Ku 120 118 119 6,rE 121 120 6,[o2 122 (.load 118 [(0,4)] 2 (.t 121) 1 false) 6 false],dw 123 2 6,xy 124 122 123 6,Bl 116 124 125,dw 127 16 16,zBn 128 127 16,dw 129 128 16,cK 130 17 19,zDz 131 130 19,xB 129 131 132 132 16 126])) (zC 133 (.exit 3) .skip)) (zQ (.seq (.join [⟨137,[.b],false⟩] 326671072244100924924839623134497482997760 none (zR [af 134 16,af 135 134,cK 136 17 1,lC 135 136 137])) (zC 137 (zS [cO 138 8,di 139 15 13,l9 141 138 139,[o4 1 [8,91,97,104,138] (.store 8 [(0,4)] 2 (.t 142) (.t 140))]] (.exit 3)) .skip)) (zS [cO 143 8,af 144 15,l9 145 143 144,[o4 1 [8,91,97,104,143] (.store 8 [(0,4)] 3 (.t 146) (.c [.b] [.bool true]))]] (zS [[⟨false,[],[],.det 2 (.copy 8),[147,8,99,100,106,107,145,146],(some 147),none⟩],af 148 15,bH 147 6 147,af 7 148] .ret)))))))) (zR [yY 94 15,af 15 95]))))))) (zS [S_ 8 149 8 91 149,bH 149 6 149,zEx 7] .ret)))))))))))
def Lf:aJ:=⟨[.rd true qx,.rd true [.d,.d],.rd false [.d]],(.tup [(false,1),(false,1)] [.sl (.own none) [.d,.d,.d,.d],.d])⟩
def zz:aH:=aA [(182,oD),(183,wB),(186,rR),(204,pu)]
def zB (n:Nat):bK × aF × Int->Option ((List fA × Int) × Unit):=aD n zz zy [bz,[.i .i64,.i .i64],[.i .i64]] [.sl kM,.i .i64] [] [6,7] .no
def mR:=zB BIG
def Lg:TSp:=⟨Lf,[bz,[.i .i64,.i .i64],[.i .i64]],[.sl kM,.i .i64],[],Ou.j .no,mR⟩
theorem aaV:aM PG zz 185 Lf (zy.ht 150) .no=some (zy.wc zz,[6,7]):=by kernel_rfl
theorem YE:Lg.Ok PG 185:=aN (aa rQ (aa xR (aa vo (aa qD (ak PG))))) aaV (by kernel_rfl)
theorem aaW (n) (a0) (a1) (a2):zB n (a0,a1,a2) =
 bif decide (0+a0.2.length<=4294967296) then
  (lK (a0,a2)).bind fun r0=>
  (jY ((r0.1.1,r0.1.2.1),a1.1)).bind fun r1=>
  bnd r0.1.2.1.length r1.1 fun n2=>
  r0.1.2.1[n2]?.bind fun y3=>
  (iA y3).bind fun r4=>
  (jY ((r0.1.1,r0.1.2.1),a1.2)).bind fun r5=>
  bnd r0.1.2.1.length r5.1 fun n6=>
  r0.1.2.1[n6]?.bind fun y7=>
  (iA y7).bind fun r8=>
  (bif decide ((r8.1.length:Int)<(r4.1.length:Int)) then
   some r8.1
   else some r4.1:Option ((List Int))).bind fun x9=>
  (bif decide ((4:Int)<(IntKind.wrap .i64 (a2+(1:Int)))) then
   some (4:Int)
   else some (IntKind.wrap .i64 (a2+(1:Int))):Option (Int)).bind fun x10=>
  (aI n (X:=(List fA) × Int) (B:=(List fA)) (fun self12 x11=>
   bif decide (x11.2<(x11.1.length:Int)) then
    ((bnd x11.1.length x11.2 fun n13=>
     x11.1[n13]?.bind fun y14=>
     bif y14.2.2.2 then
      bnd x11.1.length x11.2 fun n15=>
      x11.1[n15]?.bind fun y16=>
      bif decide (y16.2.2.1=a2) then
       bnd x11.1.length x11.2 fun n17=>
       x11.1[n17]?.bind fun y18=>
       (gP (x9,y18.1)).bind fun r19=>
       some r19.1
      else some false
     else some false:Option (Bool)).bind fun x20=>
     bif x20 then
      bnd x11.1.length x11.2 fun n21=>
      x11.1[n21]?.bind fun y22=>
      some (x11.1.set n21 (y22.1,y22.2.1,x10,y22.2.2.2))
     else some x11.1:Option ((List fA))).bind fun x23=>
    self12 (x23,IntKind.wrap .i64 (x11.2+(1:Int)))
   else some x11.1) ([]++a0.2,(0:Int)):Option ((List fA))).bind fun x24=>
  (aI n (X:=(List fA) × Int) (B:=((List fA)) ⊕ ((List fA) × Int)) (fun self26 x25=>
   bif decide (x25.2<(x25.1.length:Int)) then
    (bnd x25.1.length x25.2 fun n27=>
     x25.1[n27]?.bind fun y28=>
     (gP (x9,y28.1)).bind fun r29=>
     bnd x25.1.length x25.2 fun n30=>
     x25.1[n30]?.bind fun y31=>
     (gP (x9,y31.2.1)).bind fun r32=>
     (bnd a0.2.length x25.2 fun n33=>
      a0.2[n33]?.bind fun y34=>
      bif y34.2.2.2 then
       some true
      else bnd a0.2.length x25.2 fun n35=>
      a0.2[n35]?.bind fun y36=>
      bif !decide (y36.2.2.1=a2) then
       some true
      else bif !r29.1 then
       some !r32.1
      else some false:Option (Bool)).bind fun x37=>
     bif x37 then
      some (Sum.inl x25.1)
     else (bif r29.1 then
      some r32.1
      else some false:Option (Bool)).bind fun x38=>
     bif x38 then
      bnd x25.1.length x25.2 fun n39=>
      x25.1[n39]?.bind fun y40=>
      some (Sum.inl (x25.1.set n39 (y40.1,y40.2.1,x10,y40.2.2.2)))
     else bnd x25.1.length x25.2 fun n41=>
     x25.1[n41]?.bind fun y42=>
     some (Sum.inr (x25.1.set n41 (y42.1,y42.2.1,y42.2.2.1,true),x25.2)):Option (((List fA)) ⊕ ((List fA) × Int))).bind fun y=>match y with
    | .inl x43=>
     self26 (x43,IntKind.wrap .i64 (x25.2+(1:Int)))
    | .inr x43=>
     some (Sum.inr (x43.1,x43.2))
   else some (Sum.inl x25.1)) (x24,(0:Int)):Option (((List fA)) ⊕ ((List fA) × Int))).bind fun y=>match y with
  | .inl x44=>
   some ((x44,(-1:Int)),())
  | .inr x44=>
   some (x44,())
 else none:=by kernel_rfl
def Hf:TC:=
 (zS [bM 2 0,bM 3 1,EW 4 1000000005,l8 5 1000000006,a_ 6,a_ 7] (zQ (.seq (.join [⟨23,[.b],false⟩] 16760832 none (zR [tX 14 2 2 180,jg 16 15,wu 18 2 2 3,EZ 123 18 19 19 3,Kw 20 3 2 3 129 19 3,nL 22 21 3 17])) (zC 23 (zS [zBC 24,zGC 25,ek 4 24 4 24,cZ 5 5 25,zGD,a_ 7] .ret) .skip)) (zS [aW 26 2 0,zBD 28 27,EW 8 1000000009,ek 8 28 8 28] (zS [[o1 29 (.build kM [])],OE 9 1000000010,cZ 9 9 29] (zQ (.join [⟨9,kM,false⟩,⟨8,bz,false⟩] 4722366482868571473664 none (zS [bC 10] (.block 0 (.loop [⟨9,kM,false⟩,⟨8,bz,false⟩,⟨10,[.i .i64],false⟩] 4722366482868571473664 (zQ (zS [qA 30 10 2 1,kw 33 32 30] (zC 34 .skip (.exit 0))) (zQ (.join [⟨9,kM,false⟩,⟨8,bz,false⟩] 4722366482732206260992 none (.block 1 (zQ (.join [⟨56,[.b],false⟩] 144115050636902400 none (zR [af 39 10,aW 37 2 1,l9 40 38 39,yT 42 38 4 41,aW 43 3 0,kP 45 42 44,ow 46 45 9 2 1 9,cK 49 10 9,kT 50 48 49 9,ol 51 50 9,zGr 52 48 4 1 51 9,nM 53 9 3 1 9,xu 55 52 54 9,lC 46 55 56])) (zC 56 (zR [aW 57 2 1,af 59 10,jV 60 58 59 4 4,cZ 9 9 61]) (zR [af 66 10,mO 62 8 1,aW 64 2 1,jV 67 65 66 4 4,zGs 69 68,Kr 63 63 69 70 63 63 8 70,bO 71,rD 8 70 63 8 1 71 70]))))) (zR [yY 35 10,af 10 36]))))))) (zQ (zS [aW 72 9 3,gX 74 73] (zC 74 (zS [gI 75 8 2,zGC 76,Bg 75 4 75 4 75 75 8,cZ 5 5 76,zGD,gu 7] .ret) .skip)) (zQ (.join [⟨8,bz,false⟩,⟨4,bz,false⟩,⟨5,[.i .i64,.i .i64],false⟩] 81129638263490954243960358320624 (some [⟨4,bz,false⟩,⟨5,[.i .i64,.i .i64],false⟩,⟨6,[.b],false⟩,⟨7,[.b],false⟩]) (zS [[⟨false,[],[3000008001],.det 1 (.idx .nil),[77,8],(some 77),none⟩],iR 78 9 2 77,af 11 78] (.block 2 (.loop [⟨8,bz,false⟩,⟨4,bz,false⟩,⟨5,[.i .i64,.i .i64],false⟩,⟨11,[.i .i64],false⟩] 81129637810143771888474417805808 (zQ (zS [af 79 11,zGE 80 79] (zC 80 .skip (.exit 2))) (zQ (.block 3 (zS [bS 84 8 2,bS 85 3 2,af 86 11,Kt 87 185 84 85 86,Bo 87 83 87 1 1,bH 88 12 88,af 13 89] (zS [zEk 12 12 90 12 90,bO 91,Bf 8 8 1 91 90] (zS [af 92 13,zGE 93 92] (zC 93 (zS [af 95 12,af 96 13,af 100 12,af 101 13,bS 94 8 2,zHa 4 95 96 97 97,zHb 4 97 98 98,zHc 4 95 0 4 98 99 99,zHa 4 100 101 102 102,zHb 4 102 103 103,[⟨false,[],[4],.det 1 (.load 100 [(0,4)] 1 (.t 103) 1 false),[104],(some 104),none⟩,⟨false,[],[4],.det 1 (.build [.i .i64,.i .i64] [(0,.t 99),(1,.t 104)]),[105],(some 105),none⟩],cZ 4 4 94,cZ 5 5 105,gu 6,gu 7] .ret) .skip))))) (zR [af 81 11,oh 82 81,af 11 82]))))))) (zS [bS 106 8 2,zGC 107,cZ 4 4 106,cZ 5 5 107,a_ 6,gu 7] .ret))))))))
def TM:aJ:=⟨[.rd true qx,.rd true [.d,.d]],(.tup [(true,2),(true,2),(false,1),(false,1)] [.d,.sl (.ro []) [.d,.d,.d,.d],.d,.d,.d,.d])⟩
def Hg:aH:=aA [(180,zg),(123,rH),(129,xV),(185,Lg)]
def Hl (n:Nat):bK × aF->Option (Zt8 × Unit):=aD n Hg Hf [bz,[.i .i64,.i .i64]] Ty7 [] [4,5,6,7] .no
def jZ:=Hl BIG
def TN:TSp:=⟨TM,[bz,[.i .i64,.i .i64]],Ty7,[],Ou.j .no,jZ⟩
theorem agW:aM PG Hg 122 TM (Hf.ht 108) .no=some (Hf.wc Hg,[4,5,6,7]):=by kernel_rfl
theorem ac0:TN.Ok PG 122:=aN (aa Bu (aa vg (aa C8 (aa YE (ak PG))))) agW (by kernel_rfl)
theorem agX (n) (a0) (a1):Hl n (a0,a1) = ((uB a0).bind fun r0=> bif !r0.1 then some true else (iZ a0).bind fun r1=> (rZ (r1.1,a1)).bind fun r2=> some !r2.1:Option (Bool)).bind fun x3=> bif x3 then some (((0:Int),[],(0:Int),(0:Int),false,false),()) else (aI n (X:=fA × bK × Int) (B:=fA × bK) (fun self5 x4=> bif decide (x4.2.2<(a0.2.length:Int)) then ((bnd a0.2.length x4.2.2 fun n6=> a0.2[n6]?.bind fun y7=> bif decide (y7.1=a1.1) then bnd a0.2.length x4.2.2 fun n8=> a0.2[n8]?.bind fun y9=> some (decide (y9.2.1=a1.2)) else some false:Option (Bool)).bind fun x10=> bif x10 then bnd a0.2.length x4.2.2 fun n11=> a0.2[n11]?.bind fun y12=> some (y12,x4.2.1) else bnd a0.2.length x4.2.2 fun n13=> a0.2[n13]?.bind fun y14=> bif decide (x4.2.1.2.length+[y14].length<=4294967296) then some (x4.1,(x4.2.1.1,x4.2.1.2++[y14])) else none:Option (fA × bK)).bind fun x15=> self5 (x15.1,x15.2,IntKind.wrap .i64 (x4.2.2+(1:Int))) else some (x4.1,x4.2.1)) (((0:Int),(0:Int),(0:Int),false),(a0.1,[]),(0:Int)):Option (fA × bK)).bind fun x16=> bif !x16.1.2.2.2 then some ((x16.2.1,x16.2.2,(0:Int),(0:Int),false,true),()) else (aI n (X:=bK × bK × aF × Int) (B:=(bK × bK × aF) ⊕ (bK × aF × Bool × Bool)) (fun self18 x17=> bif decide ((0:Int)<=x17.2.2.2) then (mR (x17.1,a1,x17.2.2.2)).bind fun r19=> bif decide ((0:Int)<=r19.1.2) then bnd r19.1.1.length r19.1.2 fun n20=> r19.1.1[n20]?.bind fun y21=> bnd r19.1.1.length r19.1.2 fun n22=> r19.1.1[n22]?.bind fun y23=> some (Sum.inr ((x17.1.1,r19.1.1),(y21.1,y23.2.1),true,true)) else self18 ((x17.1.1,r19.1.1),x17.2.1,x17.2.2.1,IntKind.wrap .i64 (x17.2.2.2-(1:Int))) else some (Sum.inl (x17.1,x17.2.1,x17.2.2.1))) (x16.2,((0:Int),[]),((0:Int),(0:Int)),x16.1.2.2.1):Option ((bK × bK × aF) ⊕ (bK × aF × Bool × Bool))).bind fun y=>match y with | .inl x24=> some ((x24.1.1,x24.1.2,(0:Int),(0:Int),false,true),()) | .inr x24=> some ((x24.1.1,x24.1.2,x24.2.1.1,x24.2.1.2,x24.2.2),()):=by kernel_rfl
end
end Go.Fw
