/- The given functions, as what they compute; each is shown to be what the code does. No conditions. -/
import Derived.Test.YtbdciplhpomakaaGreatG5
import Derived.Test.YtbdciplhpomakaaGreatProg
set_option linter.unusedVariables false
set_option linter.unusedSimpArgs false
set_option linter.unusedSectionVars false
namespace Go.Fw
noncomputable abbrev PG:=Go.Proofs.Tryz.prog
def o2 (d:Nat) (e:ED) (j:Nat) (b:Bool):TO:=⟨false,[],[],.det 1 e,[d],some d,some (j,b)⟩
def o3 (d:Nat) (K:FuncId) (gets:List OY):TO:=⟨false,[],[],.call 1 K gets .no,[d],some d,none⟩
def o4 (n:Nat) (ds:List Nat) (e:ED):TO:=⟨false,[],[],.det n e,ds,none,none⟩
abbrev Ty0 : List TY := [.i .i64, .sl [.i .i64], .sl [.i .i64, .i .i64], .sl [.sl [.i .i64]], .sl [.i .i64], .i .i64, .i .i64, .i .i64, .i .i64, .i .i64, .i .i64, .i .i64, .sl [.i .i64, .i .i64], .i .i64, .sl [.i .i64, .i .i64, .i .i64, .i .i64, .i .i64, .i .i64], .i .i64]
abbrev dO : List TY := [.i .i64, .sl [.i .i64], .sl [.i .i64, .i .i64], .sl [.sl [.i .i64]], .sl [.i .i64], .i .i64, .i .i64, .i .i64, .i .i64, .i .i64, .i .i64, .i .i64, .sl [.i .i64, .i .i64], .i .i64, .sl [.i .i64, .i .i64, .i .i64, .i .i64, .i .i64, .i .i64]]
abbrev Ty2 : List TY := [.i .i64, .i .i64, .i .i64, .i .i64, .i .i64, .i .i64, .i .i64, .i .i64, .b, .sl [.i .i64, .i .i64], .sl [.i .i64], .i .i64, .i .i64, .sl [.i .i64, .i .i64], .i .i64]
abbrev Uc : List TY := [.sl [.i .i64, .i .i64, .i .i64, .i .i64, .i .i64, .i .i64, .i .i64, .b, .sl [.i .i64, .i .i64], .sl [.i .i64], .i .i64, .i .i64, .sl [.i .i64, .i .i64], .i .i64]]
abbrev Ty4 : List TY := [.i .i64, .i .i64, .i .i64, .i .i64, .i .i64, .i .i64, .i .i64, .b, .sl [.i .i64, .i .i64], .sl [.i .i64], .i .i64, .i .i64, .sl [.i .i64, .i .i64], .i .i64, .b]
abbrev oC : List TY := [.i .i64, .i .i64, .i .i64, .i .i64, .i .i64, .i .i64, .i .i64, .b, .sl [.i .i64, .i .i64], .sl [.i .i64], .i .i64, .i .i64, .sl [.i .i64, .i .i64], .i .i64]
abbrev Ty6 : List TY := [.sl [.i .i64, .i .i64, .sl [.i .i64, .i .i64, .i .i64, .b], .i .i64, .b, .sl [.i .i64, .i .i64], .sl [.i .i64]]]
abbrev yS : List TY := [.i .i64, .i .i64, .sl [.i .i64, .i .i64, .i .i64, .b], .i .i64, .b, .sl [.i .i64, .i .i64], .sl [.i .i64]]
abbrev Ty8 : List TY := [.i .i64, .i .i64, .i .i64, .i .i64, .i .i64, .i .i64, .i .i64, .sl [.i .i64, .i .i64], .i .i64]
abbrev Ty9 : List TY := [.i .i64, .b, .sl [.i .i64, .i .i64], .sl [.i .i64], .b]
abbrev agM : List TY := [.i .i64, .i .i64, .sl [.i .i64, .i .i64], .i .i64, .b]
abbrev R9 : List TY := [.i .i64, .i .i64, .i .i64, .i .i64, .i .i64, .i .i64]
abbrev dx : List TY := [.i .i64, .b, .sl [.i .i64, .i .i64], .sl [.i .i64]]
abbrev dP : List TY := [.i .i64, .i .i64, .sl [.i .i64, .i .i64], .i .i64]
abbrev agN : List TY := [.i .i64, .sl [.i .i64, .i .i64, .i .i64, .b], .b]
abbrev eX : List TY := [.i .i64, .sl [.i .i64, .i .i64, .i .i64, .b]]
abbrev kI : List TY := [.sl [.i .i64, .i .i64, .i .i64, .b]]
abbrev gy : List TY := [.i .i64, .i .i64, .i .i64, .i .i64]
abbrev jK : List TY := [.i .i64, .sl [.i .i64, .i .i64]]
abbrev bu : List TY := [.sl [.i .u8], .i .i64, .i .i64]
abbrev kJ : List TY := [.i .i64, .i .i64, .i .i64, .b]
abbrev oH : List TY := [.i .i64, .sl [.sl [.i .i64]]]
abbrev Ct0:List CT:=[.d,.sl (.own none) [.d],.sl (.own none) [.d,.d],.sl (.own none) [.sl (.own none) [.d]],.sl (.own none) [.d],.d,.d,.d,.d,.d,.d,.d,.sl (.own none) [.d,.d],.d,.sl (.own none) [.d,.d,.d,.d,.d,.d],.d]
abbrev KP:List CT:=[.d,.sl (.own none) [.d],.sl (.own none) [.d,.d],.sl (.own none) [.sl (.own none) [.d]],.sl (.own none) [.d],.d,.d,.d,.d,.d,.d,.d,.sl (.own none) [.d,.d],.d,.sl (.own none) [.d,.d,.d,.d,.d,.d]]
abbrev Ct2:List CT:=[.d,.d,.d,.d,.d,.d,.d,.d,.sl (.own none) [.d,.d],.sl (.own none) [.d],.d,.d,.sl (.own none) [.d,.d],.d]
abbrev Ct3:List CT:=[.d,.d,.sl (.own none) [.d,.d,.d,.d],.d,.d,.sl (.own none) [.d,.d],.sl (.own none) [.d]]
abbrev Av:List CT:=[.d,.d,.sl (.own none) [.d,.d],.sl (.own none) [.d]]
abbrev Aw:List CT:=[.d,.d,.sl (.own none) [.d,.d],.d]
abbrev Yv:List CT:=[.d,.sl (.own none) [.d,.d,.d,.d]]
abbrev Ct7:List CT:=[.d,.sl (.own none) [.d,.d]]
abbrev ny:List CT:=[.sl (.own none) [.d,.d]]
abbrev Ct9:List CT:=[.sl (.own none) [.d],.d]
abbrev gK:List CT:=[.sl (.own none) [.d]]
abbrev alY:List CT:=[.d,.d,.d,.d,.d,.d]
def oc (d s:Nat):TO:=o1 d (.copy s)
def oi (d:Nat):TO:=o1 d (.idx .nil)
def o5 (e:ED) (d x:Nat):TO:=⟨false,[],[],.det 2 e,[d,x],some d,none⟩
def o6 (d s:Nat):TO:=⟨true,[],[],.det 1 (.copy s),[d],some d,none⟩
def o7 (a:Nat) (x y:DX) (d:Nat):TO:=⟨false,[],[],.pick a x y,[d],some d,none⟩
abbrev kV (n:Int):Value:=.int .i64 n
abbrev kO (n:Int):OY:=.c [.i .i64] [kV n]
abbrev kD (n:Int):DX:=.c (kV n)
abbrev kL (n:Int):ED:=.lit [.i .i64] [kV n]
abbrev iI:TY:=.i .i64
def zS (l:List (List TO)) (c:TC):TC:=.seq (.rg l.flatten) c
def zR (l:List (List TO)):TC:=.rg l.flatten
def zQ (a b:TC):TC:=.seq a b
def zC (x:Nat) (a b:TC):TC:=.cond (.t x) a b
def bf (a:Nat):List TO:=[o1 a (.lit [.b] [.bool false])]
def af (a b:Nat):List TO:=[oc a b]
def kX (a b:Nat):List TO:=[o1 a (.len b)]
def w_ (a b:Nat)(c:Int):List TO:=[o1 a (.data (.bin .gtr) [.t b,kD c])]
def Ud (a:Nat)(b:Int)(c:Nat):List TO:=[o1 a (.data (.bin .add) [kD b,.t c])]
def bn (a:Nat):List TO:=[o1 a (kL 0)]
def kY (a b c:Nat):List TO:=[o1 a (.data (.bin .lss) [.t b,.t c])]
def fq (a b c:Nat):List TO:=[o2 a (.copy b) c true]
def zAi (a b:Nat)(c:Int)(d:Nat):List TO:=[o2 a (.data (.bin .lss) [.t b,kD c]) d true]
def oZ (a b c:Nat):List TO:=[o7 a (.t b) (.c (.bool false)) c]
def zAk (a b:Nat)(c:Int):List TO:=[o1 a (.data (.bin .mul) [.t b,kD c])]
def iW (a b c:Nat):List TO:=[o1 a (.index b (.t c))]
def Ay (a b c d:Nat):List TO:=[o1 a (.load b [(0,c)] 0 (.t d) 1 false)]
def zAo (a b:Nat):List TO:=[o1 a (.data (.conv .i64) [.t b])]
def o_ (a b c:Nat):List TO:=[o1 a (.data (.bin .add) [.t b,.t c])]
def zAq (a b:Nat)(c:Int):List TO:=[o1 a (.data (.bin .add) [.t b,kD c])]
def zAr (a b:Nat)(c:Int):List TO:=[o1 a (.data (.bin .and) [.t b,kD c])]
def yT (a b:Nat):List TO:=[o1 a (.data (.bin .add) [.t b,kD 1])]
def dG (a b:Nat):List TO:=[o1 a (.a (.t b))]
def bH (a:Nat):List TO:=[o1 a (.p0)]
def qM (a b:Nat):List TO:=[o1 a (.same b)]
def yU (a b:Nat):List TO:=[o1 a (.idx (.t b))]
def qN (a b c d:Nat):List TO:=[o1 a (.load b [] c (.t d) 1 false)]
def yV (a b c d e:Nat):List TO:=[o4 1 [a] (.store b [] c (.t d) (.t e))]
def zAz (a b c:Nat):List TO:=[o1 a (.data (.bin .shr) [.t b,.c (.int .u64 (c))])]
def zAA (a b:Nat)(c:Int):List TO:=[o1 a (.data (.bin .leq) [.t b,kD c])]
def zAB (a b c d e:Nat):List TO:=[⟨false,[],[],.call 2 a [.t b] (.mp 0),[c,d],(some e),none⟩]
def zAC (a b c:Nat):List TO:=[o1 a (.data (.bin .rem) [.t b,.t c])]
def zAD (a:Nat)(b:Int)(c d:Nat):List TO:=[⟨false,[],[],.call 2 a [.t 0,kO b] (.mp 0),[c,0],(some d),none⟩]
def zAE (a b c:Nat):List TO:=[o1 a (.data (.bin .geq) [.t b,.t c])]
def zBa:List TO:=[o2 13 (.data (.bin .leq) [.t 11,.t 12]) 3 true]
def zBb (a:Nat):List TO:=[o1 a (.lit [.sl [.i .i64]] [.slice none 0 0])]
def xe (a:Nat):List TO:=[o1 a (.sli [.i .i64] [])]
def bK (a b c:Nat):List TO:=[o5 (.copy a) b c]
def KQ (a b:Nat):List TO:=[o1 a (.sli [.i .i64] [.t b])]
def xf (a b c d:Nat):List TO:=[o5 (.app (some a) b) c d]
def fV (a b:Nat):List TO:=[o6 a b]
def zBh (a b c d e:Nat):List TO:=[o1 a (.load b [(0,c)] d (.t e) 1 false)]
def zBi (a b c d e f:Nat):List TO:=[o4 1 [a,b] (.store c [(d,1)] 0 (.t e) (.t f))]
def Ue (a b:Nat):List TO:=[o5 (.a (.c dO [kV 0,.slice none 0 0,.slice none 0 0,.slice none 0 0,.slice none 0 0,kV 0,kV 0,kV 0,kV 0,kV 0,kV 0,kV 0,.slice none 0 0,kV 0,.slice none 0 0])) a b]
def uI (a b c:Nat)(d:Int):List TO:=[o3 a b [.t c,kO 1,kO d]]
def h_ (a b:Nat):List TO:=[o1 a (.data .not [.t b])]
def dH (a b c:Nat):List TO:=[o2 a (.copy b) c false]
def CY (a b:Nat)(c d:Int)(e f g:Nat):List TO:=[⟨false,[],[],.call 1 a [.t b,kO c,kO d] .no,[e],(some f),some (g,false)⟩]
def zBp (a b c:Nat):List TO:=[o2 a (.data .not [.t b]) c false]
def uJ (a b c:Nat):List TO:=[o7 a (.c (.bool true)) (.t b) c]
def fZ (a b c d:Nat):List TO:=[o4 2 [a,b] (.store c [] 0 .nil (.t d))]
def iX (a:Nat):List TO:=[oi a]
def zBt (a b c d:Nat):List TO:=[o1 a (.load b [] c (.t d) 1 true)]
def Mq (a b c d e f g h:Nat):List TO:=[⟨false,[a],[],.det 2 (.app (some b) c),[d,e,f,g],(some h),none⟩]
def F5 (a b c d e f g:Nat):List TO:=[o4 2 [a,b,c] (.store d [] e (.t f) (.t g))]
def Qk (a:Nat):List TO:=[o1 a (.sli [.i .i64,.i .i64] [])]
def kZ (a b c d:Nat):List TO:=[o3 a b [.t c,.t d]]
def mH (a b c:Nat):List TO:=[o1 a (.load b [] 0 .nil c true)]
def zBz (a b c d e f g:Nat):List TO:=[⟨false,[a],[],.det 2 (.store b [] 0 .nil (.t c)),[d,e,f,g],none,none⟩]
def fI (a:Nat):List TO:=[o1 a (.lit [.b] [.bool true])]
def zBB (a b:Nat):List TO:=[o5 (.a (.c eX [kV 0,.slice none 0 0])) a b]
def zBC (a:Nat):List TO:=[o1 a (.build eX [])]
def zBD (a b:Nat):List TO:=[o5 (.a (.c yS [kV 0,kV 0,.slice none 0 0,kV 0,.bool false,.slice none 0 0,.slice none 0 0])) a b]
def ib (a b c:Nat):List TO:=[o3 a b [.t c]]
def zDa (a b c d:Nat):List TO:=[o5 (.ext a 0 b) c d]
def gW (a b c:Nat):List TO:=[o1 a (.ext b c 1)]
def zDc (a b:Nat)(c:Int):List TO:=[o1 a (.data (.bin .quo) [.t b,kD c])]
def mI (a:Nat)(b:Int):List TO:=[o1 a (kL b)]
def zDe (a b:Nat)(c:Int):List TO:=[o1 a (.data (.bin .neq) [.t b,kD c])]
def kK (a b c d:Nat):List TO:=[⟨false,[],[],.call 2 a [.t 0,.t b] (.mp 0),[c,0],(some d),none⟩]
def zDg (a b:Nat):List TO:=[o5 (.a (.c gy [kV 0,kV 0,kV 0,kV 0])) a b]
def gN (a b c:Nat):List TO:=[o4 1 [a] (.store b [] 0 .nil (.t c))]
def pg (a b:Nat)(c:Int):List TO:=[o1 a (.data (.bin .eql) [.t b,kD c])]
def dY (a b c:Nat):List TO:=[o1 a (.load b [] 0 .nil c false)]
def Ql (a b:Nat):List TO:=[o5 (.a (.c dP [kV 0,kV 0,.slice none 0 0,kV 0])) a b]
def Qm (a b c d e f:Nat):List TO:=[o4 2 [a,b] (.store c [] d (.t e) (.t f))]
def zDn (a b c d e f:Nat):List TO:=[⟨false,[],[],.det 3 (.app (some a) b),[c,d,e],(some f),none⟩]
def Yw (a b c d e:Nat):List TO:=[o1 a (.load b [] c (.t d) e false)]
def jJ (a b:Nat):List TO:=[o2 a (.idx .nil) b true]
def lN (a b c d e:Nat):List TO:=[o2 a (.load b [] c (.t d) 1 false) e true]
def zDr (a b c:Nat):List TO:=[o2 a (.data (.bin .sub) [.t b,kD 1]) c true]
def zDs (a b c d e f:Nat):List TO:=[⟨false,[],[],.call 1 a [.t b,kO 0,.t c] .no,[d],(some e),some (f,true)⟩]
def zDt (a b c d:Nat):List TO:=[o2 a (.data (.bin .lss) [.t b,.t c]) d true]
def rX (a b:Nat):List TO:=[o2 a (.idx .nil) b false]
def Az (a b c d e:Nat):List TO:=[o2 a (.load b [] c (.t d) 1 false) e false]
def zDw (a b c d:Nat):List TO:=[o2 a (.data (.bin .eql) [.t b,.t c]) d false]
def zDx (a b c d e:Nat):List TO:=[⟨false,[],[],.pick a (.t b) (.c (.bool false)),[c],(some d),some (e,false)⟩]
def zDy (a b c d e:Nat):List TO:=[o1 a (.load b [(0,c)] 0 (.t d) e false)]
def Uf (a b:Nat)(c:Int)(d:Nat):List TO:=[o2 a (.data (.bin .gtr) [.t b,kD c]) d false]
def CZ (a b c d:Nat):List TO:=[o2 a (.index b (.t c)) d true]
def zDB (a b c d e f:Nat):List TO:=[o2 a (.load b [(0,c)] 0 (.t d) e false) f true]
def qP (a b c d e f:Nat):List TO:=[⟨false,[],[],.call 1 a [.t b,.t c] .no,[d],(some e),some (f,true)⟩]
def Qn (a b c:Nat):List TO:=[o2 a (.data .not [.t b]) c true]
def Qo (a b c:Nat):List TO:=[o1 a (.data (.bin .neq) [.t b,.t c])]
def Yx (a b c d:Nat):List TO:=[o3 a b [.t c,kO 0,.t d]]
def Ug (a b c d:Nat):List TO:=[o2 a (.index b (.t c)) d false]
def zEc (a b c d e:Nat):List TO:=[o2 a (.load b [(0,c)] 0 (.t d) 1 false) e false]
def zEd (a b c d:Nat):List TO:=[o2 a (.data (.bin .neq) [.t b,.t c]) d false]
def yX (a b c:Nat):List TO:=[o1 a (.data (.bin .eql) [.t b,.t c])]
def zEf (a:Nat):List TO:=[o1 a (kL (-1))]
def zEg (a b c:Nat):List TO:=[o1 a (.eqA [.i,.i] (.t b) (.t c) true)]
def Qp (a b c d:Nat):List TO:=[o2 a (.data (.bin .eql) [.t b,.t c]) d true]
def zEi (a b c:Nat):List TO:=[o1 a (.eqA [.i,.i,.i,.i] (.t b) (.t c) false)]
def Qq (a b c:Nat):List TO:=[o2 a (.data (.bin .eql) [.t b,kD 0]) c true]
def Qr (a b c d e f:Nat):List TO:=[o2 a (.load b [] c (.t d) e false) f true]
def yY (a b c d e f:Nat):List TO:=[⟨false,[],[],.call 1 a [.t b,.t c] .no,[d],(some e),some (f,false)⟩]
def zEn (a b c:Nat):List TO:=[o2 a (.data (.bin .sub) [.t b,kD 1]) c false]
def zEo (a b c d e:Nat):List TO:=[⟨false,[],[],.call 1 42 [.t a,kO 0,.t b] .no,[c],(some d),some (e,false)⟩]
def F6 (a b:Nat):List TO:=[o1 a (.data (.bin .sub) [.t b,kD 1])]
def zEq (a b c d:Nat):List TO:=[o2 a (.data (.bin .neq) [.t b,.t c]) d true]
def zEr (a b:Nat):List TO:=[o5 (.a (.c Ty8 [kV 0,kV 0,kV 0,kV 0,kV 0,kV 0,kV 0,.slice none 0 0,kV 0])) a b]
def xg (a b c:Nat):List TO:=[o2 a (.idx (.t b)) c true]
def Uh (a b c d e:Nat):List TO:=[o2 a (.load b [(0,c)] 0 (.t d) 1 false) e true]
def zEu (a b:Nat)(c:Int)(d:Nat):List TO:=[o2 a (.data (.bin .add) [.t b,kD c]) d true]
def zEv (a b c d:Nat):List TO:=[o2 a (.load b [] 0 .nil c false) d true]
def zEw (a b:Nat)(c:Int)(d e f:Nat):List TO:=[⟨false,[],[],.call 1 a [.t b,kO c,kO 100000] .no,[d],(some e),some (f,true)⟩]
def Ui (a b c:Nat):List TO:=[o2 a (.len b) c false]
def KR (a b c d:Nat):List TO:=[o2 a (.load b [] 0 .nil c false) d false]
def zEz:List TO:=[o1 15 (.build R9 [(0,.t 12),(1,.t 13),(5,.t 14)])]
def Mr (a b c:Nat):List TO:=[o1 a (.build [.i .i64,.i .i64] [(0,.t b),(1,.t c)])]
def zEB (a b:Nat):List TO:=[o1 a (.sli [.i .i64,.i .i64] [.t b])]
def Uj (a b c d e:Nat):List TO:=[o1 a (.load b [(c,d)] 0 (.t e) 1 false)]
def zED:List TO:=[⟨false,[22],[],.det 2 (.build Ty8 [(0,.t 20),(4,.t 21),(5,.t 22)]),[23,22,22,7],(some 23),none⟩]
def zEE (a b c d e f g h:Nat):List TO:=[o4 2 [a,b,c,d] (.store e [] f (.t g) (.t h))]
def KS (a b:Nat):List TO:=[o5 (.a (.c [.i .i64,.i .i64] [kV 0,kV 0])) a b]
def zGb (a:Nat):List TO:=[o1 a (.lit [.sl [.i .i64,.i .i64]] [.slice none 0 0])]
def zGc (a b c d:Nat):List TO:=[o4 2 [0,a,16,19,24,27,48,b] (.store 0 [] 2 (.t c) (.t d))]
def zGd (a b:Nat)(c:Int)(d e f:Nat):List TO:=[⟨false,[],[],.call 2 55 [.t a,.t b,kO c] (.mp 0),[d,e],(some f),none⟩]
def Ms (a b c d e:Nat):List TO:=[⟨false,[],[],.call 1 a [.t b] .no,[c],(some d),some (e,false)⟩]
def zGf (a b c d e:Nat):List TO:=[o3 a b [.t c,.t d,.t e]]
def zGg (a b c d e f g:Nat):List TO:=[⟨false,[],[],.call 2 a [.t b,.t c,.t d] (.mp 0),[e,f],(some g),none⟩]
def zGh (a b c d e:Nat):List TO:=[⟨false,[],[a],.det 1 (.load b [] 0 .nil c false),[d],(some e),none⟩]
def zGi (a b c:Nat):List TO:=[⟨false,[],[a],.det 1 (.idx .nil),[b],(some c),none⟩]
def zGj (a b c d e:Nat):List TO:=[⟨false,[],[a],.det 1 (.load 3 [] b (.t c) 1 false),[d],(some e),none⟩]
def zGk (a b c d e:Nat):List TO:=[⟨false,[],[a],.det 1 (.index b (.t c)),[d],(some e),none⟩]
def zGm (a b c d e f g h:Nat):List TO:=[⟨false,[],[a],.det 1 (.load b [(0,c)] d (.t e) f false),[g],(some h),none⟩]
def zGn (a b c d e f g h:Nat):List TO:=[⟨false,[],[],.call 3 57 [.t a,.t b,.t c,.t d] (.mp 0),[e,f,g],(some h),none⟩]
def zGo (a b c d e f:Nat):List TO:=[⟨false,[],[],.call 2 a [.t b,.t c] (.mp 0),[d,e],(some f),none⟩]
def zGp (a b:Nat):List TO:=[o5 (.a (.c jK [kV 0,.slice none 0 0])) a b]
def zGq (a b:Nat):List TO:=[o5 (.a (.c kJ [kV 0,kV 0,kV 0,.bool false])) a b]
def zGr (a b:Nat):List TO:=[o5 (.a (.c oH [kV 0,.slice none 0 0])) a b]
def zGs (a b c d e f:Nat):List TO:=[⟨false,[a],[],.det 2 (.store b [] 0 .nil (.t c)),[d,e,f],none,none⟩]
def zGt (a b c d e:Nat):List TO:=[⟨true,[a],[],.det 1 (.copy b),[c,d],(some e),none⟩]
def Uk (a b c d e:Nat):List TO:=[⟨false,[],[],.det 2 (.copy a),[b,c,d],(some e),none⟩]
def zGv (a b:Nat):List TO:=[o1 a (.index b (kD 0))]
def zGw (a b c d:Nat):List TO:=[⟨true,[],[],.det 1 (.copy a),[b],(some c),some (d,true)⟩]
def zGx (a b c:Nat):List TO:=[o2 a (.len b) c true]
def zGy (a b c:Nat)(d e:Int):List TO:=[o3 a b [.t c,kO d,kO e]]
def zGz (a b c d e:Nat):List TO:=[⟨false,[],[],.call 1 a [.t b] .no,[c],(some d),some (e,true)⟩]
def zGA (a b c d:Nat):List TO:=[o2 a (.data (.bin .gtr) [.t b,.t c]) d true]
def zGB (a:Nat):List TO:=[o2 a (.load 6 [] 0 .nil 2 true) 9 true]
def zGC:List TO:=[o2 15 (.data (.beq false) [.t 12,.t 14]) 5 true]
def zGD (a:Nat):List TO:=[o1 a (.build dx [])]
def Qs (a b c d e f:Nat):List TO:=[o2 a (.load b [] c (.t d) e false) f false]
def KU (a b c:Nat):List TO:=[o2 a (.idx (.t b)) c false]
def Qt (a b:Nat):List TO:=[o5 (.a (.c dx [kV 0,.bool false,.slice none 0 0,.slice none 0 0])) a b]
def zHc (a:Nat):List TO:=[o1 a (.build jK [])]
def zHd (a b c d e f:Nat):List TO:=[o2 a (.load b [(0,c)] d (.t e) 1 false) f true]
def zHe (a b:Nat):List TO:=[o1 a (.sli kJ [.t b])]
def zHf (a b c d e f:Nat):List TO:=[⟨false,[],[a],.call 1 b [.t c,.t d] .no,[e],(some f),none⟩]
def zHg (a b c d e f:Nat):List TO:=[⟨false,[],[a],.det b (.copy c),[d,e],(some f),none⟩]
def zHh (a b c d e:Nat):List TO:=[⟨false,[],[a],.det 2 (.ext b 0 2),[c,d],(some e),none⟩]
def zHi (a b c d:Nat):List TO:=[⟨false,[],[a],.det 1 (.ext b 2 1),[c],(some d),none⟩]
def zHj (a b c d:Nat):List TO:=[⟨false,[],[a],.det 1 (.load b [] 0 .nil 2 true),[c],(some d),none⟩]
def zHk (a:Nat):List TO:=[o1 a (.build [.i .i64,.i .i64] [])]
def zHm:List TO:=[⟨false,[],[3000004001],.det 1 (.lit [.b] [.bool false]),[6,4],(some 6),none⟩]
def zHn (a b c:Nat):List TO:=[⟨false,[],[4],.det 1 (.idx (.t a)),[b],(some c),none⟩]
def zHo (a b c d e f:Nat):List TO:=[⟨false,[],[a,b],.det 1 (.load c [] 0 .nil d false),[e],(some f),none⟩]
def zHp (a b c d e f g:Nat):List TO:=[⟨false,[],[a,b],.call 1 c [.t d,.t e] .no,[f],(some g),none⟩]
def zHq (a b c d e f:Nat):List TO:=[⟨false,[],[a,b],.det 2 (.copy c),[d,e],(some f),none⟩]
def zHr (a b c d e f g:Nat):List TO:=[⟨false,[],[a,b],.det 1 (.ext c d e),[f],(some g),none⟩]
def zHs (a b c d e:Nat):List TO:=[o5 (.ext a b c) d e]
def zHt (a b c:Nat):List TO:=[⟨false,[a],[],.det 1 (.copy b),[7,c],(some 7),none⟩]
def zHu (a b c d e f:Nat):List TO:=[⟨false,[a],[],.det 2 (.copy b),[c,d,e],(some f),none⟩]
def zHv (a:Int)(b c d:Nat):List TO:=[o5 (.build oC [(0,kO a),(b,.t c)]) d 1000000001]
def zHw (a b c:Nat):List TO:=[o5 (.sli oC [.t a]) b c]
def zHx (a b c d:Nat):List TO:=[⟨false,[],[1000000026,1000000027],.det 2 (.ext 106 a b),[c,106],(some d),none⟩]
def F7 (a b:Nat):List TO:=[o5 (.a (.c oC [kV 0,kV 0,kV 0,kV 0,kV 0,kV 0,kV 0,.bool false,.slice none 0 0,.slice none 0 0,kV 0,kV 0,.slice none 0 0,kV 0])) a b]
def zHz (a b:Nat):List TO:=[o2 a (.p0) b true]
def zHA:List TO:=[⟨false,[],[],.det 5 (.sli [.i .i64] [kO 0,kO (-1),kO 100000,kO 100001]),[14,1000000001,1000000002,1000000003,1000000004],(some 14),none⟩]
def zHB (a b:Int)(c d:Nat):List TO:=[⟨false,[],[],.det 6 (.sli [.i .i64] [kO 0,kO a,kO b,kO 3,kO 4]),[c,1000000001,1000000002,1000000003,1000000004,1000000005],(some d),none⟩]
def zHC (a b c:Int)(d e:Nat):List TO:=[⟨false,[],[],.det 5 (.sli [.i .i64] [kO (-1),kO a,kO b,kO c]),[d,1000000001,1000000002,1000000003,1000000004],(some e),none⟩]
def zHD (a b c d e f:Nat):List TO:=[⟨false,[],[a],.det 1 (.load b [] c (.t d) 1 true),[e],(some f),none⟩]
def zHE (a:Nat)(b:Int)(c d:Nat):List TO:=[⟨false,[],[],.call 2 41 [.t 0,.t a,kO 2,kO b] (.mp 0),[c,0],(some d),none⟩]
def zIa (a b:Nat):List TO:=[o1 a (.data (.bin .rem) [.t b,kD 128])]
def Mt (a b:Nat):List TO:=[o1 a (.data (.conv .u8) [.t b])]
def Ul (a b:Nat):List TO:=[o1 a (.sli [.i .u8] [.t b])]
def Yy (a b:Nat):List TO:=[o1 a (.bytes b)]
def Mv (a b:Nat):List TO:=[o1 a (.data .slen [.t b])]
def zIf (a b c:Nat):List TO:=[o2 a (.data (.bin .neq) [.t b,kD 0]) c false]
def zIg (a b c:Nat):List TO:=[o2 a (.eqA [.i,.i,.i,.i] (.t b) (.t c) false) 3 true]
def zIh (a:Nat):List TO:=[o2 a (.p0) 4 false]
def zIi (a b c:Nat):List TO:=[o2 a (.same b) c false]
def zIj (a b c:Nat):List TO:=[o2 a (.data .slen [.t b]) c false]
def zIk (a:Nat):List TO:=[o4 1 [0] (.store 0 [] 2 (.t a) (.c [.b] [.bool true]))]
def zIm (a b c:Nat):List TO:=[o1 a (.data .sidx [.t b,.t c])]
def zIn (a b c:Nat):List TO:=[o2 a (.same b) c true]
def zIo (a b:Nat):List TO:=[o1 a (.build [.s,.i .i64,.b] [(0,.t b)])]
def zIp (a b c d:Nat):List TO:=[⟨false,[],[],.call 2 95 [.t a] (.mp 0),[b,c],(some d),some (2,false)⟩]
def zIq (a:Nat):List TO:=[o1 a (.build dP [])]
def zIr (a b c d e:Nat):List TO:=[⟨false,[a],[],.det 2 (.store 4 [] 0 .nil (.t b)),[4,c,d,7,e],none,none⟩]
def zIs (a b c d e:Nat):List TO:=[⟨false,[],[],.pick a (.c (.bool true)) (.t b),[c],(some d),some (e,true)⟩]
def zIt (a b c d e f:Nat):List TO:=[o2 a (.load b [] c (.t d) e true) f false]
def bP (a b c:Nat):List TO:=iX a++qN (a+1) b c a
def bM (a b c:Nat):List TO:=af a b++af (a+1) c
def zIw (a b:Nat):List TO:=af a b++yT (a+1) a
def nz (a b:Nat):List TO:=qM a b++yU (a+1) a
def uK (a b c d:Nat):List TO:=zBp a b c++uJ d a (a+1)
def C8 (a b c d:Nat):List TO:=jJ a b++lN (a+1) c d a b
def mJ (a b c d:Nat):List TO:=iW a b c++Ay (a+1) b d a
def pq (a b:Nat):List TO:=af a b++af (a+1) (b+1)
def rY (a b c:Nat):List TO:=kX a b++kY (a+1) c a
def ic (a b c:Nat):List TO:=oZ a b c++af (c+1) c
def eu (a b c:Nat):List TO:=zIw a b++af c (a+1)
def Qu (a b c d e:Nat):List TO:=iW a b c++zDy (a+1) b d a e
def Qv (a b c d e:Nat):List TO:=kZ a b c d++bK a e a
def jo (a b c d e:Nat):List TO:=qM a b++zAB c d (a+1) e (a+1)
def AA (a b c d e:Nat):List TO:=jJ a b++lN (a+1) c d a e
def uL (a b c d e f:Nat):List TO:=mH a b c++zBz a d a e a a f
def pu (a b c d:Nat):List TO:=rX a b++Az (a+1) c d a b
def kM (a b c d:Nat):List TO:=uK a b c d++af (a+2) (a+1)
def zJh (a b c d:Nat):List TO:=gW a b c++gW (a+1) b d
def Um (a b c:Nat):List TO:=iW a b c++yU (a+1) a
def mK (a b c d:Nat):List TO:=nz a b++qN (a+2) c d (a+1)
def jq (a b:Nat)(c:Int)(d:Nat):List TO:=pg a b c++af d a
def oD (a b c d e:Nat):List TO:=rX a b++Az (a+1) c d a e
def oF (a b:Nat):List TO:=h_ a b++af (a+1) a
def KV (a b c d e:Nat):List TO:=xf a b c d++bK c e c
def jX (a b c d e:Nat):List TO:=iX a++yV b c d a e
def iY (a b c d:Nat):List TO:=iX a++qN (a+1) b c d
def qQ (a b:Nat):List TO:=bH a++af (a+1) b
def C9 (a b c:Nat):List TO:=bM a b c++kY (a+2) a (a+1)
def uM (a b c:Nat):List TO:=iX a++zBt (a+1) b c a
def uN (a b c d:Nat):List TO:=bP a b c++ib (a+2) d (a+1)
def mM (a b c d:Nat):List TO:=oZ a b c++af d c
def F8 (a b c:Nat):List TO:=bM a b c++rY (a+2) (a+1) a
def yZ (a:Nat):List TO:=iX a++yU (a+1) a
def kN (a b:Nat):List TO:=dG a b++bf (a+1)
def KW (a b c d e f:Nat):List TO:=Qv a b c d e++zDa e f (a+1) e
def Qw (a b c d e:Nat):List TO:=zJh a b c d++pq e a
def AB (a b c d:Nat):List TO:=bK a b c++bK b d b
def AC (a b c d:Nat):List TO:=fZ a b c d++af (a+1) (b+1)
def zJD (a b c d:Nat):List TO:=zGi a b c++zGj a d b (b+1) (b+1)
def AJ (a b:Nat)(c:Int):List TO:=bH a++zAD b c (a+1) (a+1)
def C_ (a b:Nat)(c:Int):List TO:=pg a b c++af (b+1) a
def Da (a b c d e:Nat):List TO:=dY a b c++kZ (a+1) d e a
def rZ (a b c d:Nat):List TO:=o_ a b c++af d a
def F9 (a b c d e:Nat):List TO:=zEd a b c d++uJ e a (a+1)
def Qx (a b c d:Nat):List TO:=bM a b c++mJ (a+2) a (a+1) d
def Qy (a b c:Nat):List TO:=qQ a b++kK c (a+1) (a+2) (a+2)
def Qz (a b c d e:Nat):List TO:=bM a b c++Qu (a+2) a (a+1) d e
def uO (a b c d e f:Nat):List TO:=iX a++Qm b c d e a f
def QA (a b c d:Nat):List TO:=af a b++bP (a+1) c d
def F_ (a b c d:Nat):List TO:=bH a++zAB b c (a+1) d (a+1)
def KX (a b c d e f g h:Nat):List TO:=Qv a b c d e++Qw (a+1) e f g h
def KY (a b c d:Nat):List TO:=ib a b c++bK a d a
def KZ (a b c d e f:Nat):List TO:=zDx a b c d e++uJ f c (c+1)
def K3 (a b c d:Nat):List TO:=iX a++Yw (a+1) b c a d
def Un (a b c d:Nat):List TO:=Um a b c++Ay (a+2) b d (a+1)
def y_ (a b c d:Nat):List TO:=af a b++dH (a+1) c d
def Mw (a b:Nat):List TO:=zIw a b++af b (a+1)
def Mx (a b c d e f:Nat):List TO:=C8 a b c d++C8 (a+2) b e f
def MB (a b c:Nat):List TO:=bP a b c++kX (a+2) (a+1)
def Yz (a b c d:Nat):List TO:=bK a b c++zDa b d (a+1) b
def QB (a b c d:Nat):List TO:=dY a b c++ib (a+1) d a
def AL (a b c:Nat):List TO:=af a b++af c a
def AO (a b c d e f:Nat):List TO:=af a b++AA (a+1) c d e f
def xh (a b c:Nat):List TO:=af a b++kX (a+1) c
def QC (a b c d e:Nat):List TO:=zEB a b++KV c a (a+1) d e
def QD (a b c d:Nat):List TO:=nz a b++zBt (a+2) c d (a+1)
def zKB (a b c d e:Nat):List TO:=Um a b c++zBh (a+2) b d e (a+1)
def Ga (a b c d:Nat):List TO:=af a b++fq (a+1) c d
def Gb (a b c d:Nat):List TO:=af a b++mH (a+1) c d
def Gc (a b c d e:Nat):List TO:=bP a b c++bP (a+2) d e
def Uo (a b c d e:Nat):List TO:=QA a b c d++rY e (a+2) a
def Uq (a b c d e:Nat):List TO:=af a b++Qu (a+1) c a d e
def zLc (a b c d e f:Nat):List TO:=zDr a b c++zDs d e a (a+1) (a+1) f
def zLd (a b:Nat):List TO:=rX a b++KU (a+1) a b
abbrev Zt0:=Int × (Int × List Int × List (Int × Int) × List (List Int) × List Int × Int × Int × Int × Int × Int × Int × Int × List (Int × Int) × Int × List (Int × Int × Int × Int × Int × Int))
abbrev Zt1:=Int × List Int × List (Int × Int) × List (List Int) × List Int × Int × Int × Int × Int × Int × Int × Int × List (Int × Int) × Int × List (Int × Int × Int × Int × Int × Int) × Int
abbrev jY:=Int × List Int × List (Int × Int) × List (List Int) × List Int × Int × Int × Int × Int × Int × Int × Int × List (Int × Int) × Int × List (Int × Int × Int × Int × Int × Int)
abbrev Zt3:=Int × Int × Int × Int × Int × Int × Int × Bool × List (Int × Int) × List Int × Int × Int × List (Int × Int) × Int × Bool
abbrev QE:=Int × Int × Int × Int × Int × Int × Int × Bool × (List (Int × Int)) × (List Int) × Int × Int × (List (Int × Int)) × Int
abbrev Zt5:=Int × Int × Int × Int × Int × Int × Int × Int × Bool × List (Int × Int) × List Int × Int × Int × List (Int × Int) × Int
abbrev YA:=Int × Int × Int × Int × Int × Int × Int × Bool × List (Int × Int) × List Int × Int × Int × List (Int × Int) × Int
abbrev Zt7:=Int × Int × (List (Int × Int × Int × Bool)) × Int × Bool × (List (Int × Int)) × (List Int)
abbrev Zt8:=Int × Int × List (Int × Int × Int × Bool) × Int × Bool × List (Int × Int) × List Int
abbrev Zt9:=Int × Bool × List (Int × Int) × List Int × Bool
abbrev aqb:=Int × List (Int × Int × Int × Bool) × Bool
abbrev aqc:=Int × Int × List (Int × Int) × Int × Bool
abbrev gT:=Int × Bool × List (Int × Int) × List Int
abbrev gZ:=Int × List (Int × Int × Int × Bool)
abbrev kP:=Int × Int × List (Int × Int) × Int
abbrev R_:=Int × Int × Int × Int × Int × Int
abbrev gU:=Int × Int × Int × Bool
abbrev vo:=Int × List (Int × Int)
abbrev r_:=Int × Int × Int × Int
abbrev vw:=Int × List (List Int)
abbrev WY:=Int × Int × Bool
abbrev aV:=Int × Int
end Go.Fw
namespace Go.Fw
noncomputable section
def abH:TC:=
 (zS [bf 2] (zS [xh 3 0 3,w_ 5 4 1048576,af 2 5] .ret))
def ajM:aI:=⟨[.rd false gK],(.one false [.d])⟩
def abI:aJ:=aA []
def ajN (n:Nat):List (Int)->Option ((Bool) × Unit):=aB n abI abH [[.sl [.i .u8]]] [.b] [] [2] .no
def abJ:=ajN BIG
def ajO:TSp:=⟨ajM,[[.sl [.i .u8]]],[.b],[],Ou.j .no,abJ⟩
theorem aqd:aL PG abI 7 ajM (abH.ht 6) .no=some (abH.wc abI,[2]):=by kernel_rfl
theorem aoq:ajO.Ok PG 7:=aM (ak PG) aqd (by kernel_rfl)
theorem aqe (n) (a0):ajN n a0 = some (decide ((1048576:Int)<(a0.length:Int)),()):=by kernel_rfl
def MC:TC:=
 (zS [[o1 2 (.nl)]] (zS [xh 5 0 5,Ud 7 13501 6,af 3 7] (zQ (.join [⟨3,[.i .i64],false⟩] 268435224 none (zS [bn 4] (.block 0 (.loop [⟨3,[.i .i64],false⟩,⟨4,[.i .i64],false⟩] 268435224 (zQ (.seq (.join [⟨15,[.b],false⟩] 65280 none (zR [bM 8 4 0,rY 10 9 8,Ga 12 11 4 4,zAi 14 13 4000 4,oZ 12 14 15])) (zC 15 .skip (.exit 0))) (zQ (.block 1 (zR [af 18 3,zAk 19 18 131,Qx 20 0 4 1,zAo 24 23,o_ 25 19 24,zAq 26 25 7,zAr 27 26 1073741823,af 3 27])) (zR [eu 16 4 4]))))))) (zS [bM 28 0 3,[o1 30 (.build bu [(0,.t 28),(2,.t 29)])],dG 31 30,[⟨true,[],[],.det 2 (.copy 31),[2,31],(some 2),none⟩]] .ret))))
def YB:aI:=⟨[.rd false gK],(.bx [.sl (.ro [0]) [.d],.d,.d])⟩
def ME:aJ:=aA []
def MF (n:Nat):List (Int)->Option ((List Int × Int × Int) × Unit):=aB n ME MC [[.sl [.i .u8]]] bu [] [2] .no
def xm:=MF BIG
def MG:TSp:=⟨YB,[[.sl [.i .u8]]],bu,[],Ou.j .no,xm⟩
theorem ajP:aL PG ME 37 YB (MC.ht 32) .no=some (MC.wc ME,[2]):=by kernel_rfl
theorem Ur:MG.Ok PG 37:=aM (ak PG) ajP (by kernel_rfl)
theorem ajQ (n) (a0):MF n a0 = (aO n (X:=Int × Int) (B:=Int) (fun self1 x0=> (bif decide (x0.2<(a0.length:Int)) then some (decide (x0.2<(4000:Int))) else some false:Option (Bool)).bind fun x2=> bif x2 then bnd a0.length x0.2 fun n3=> a0[n3]?.bind fun y4=> self1 (bits .and .i64 (IntKind.wrap .i64 ((IntKind.wrap .i64 ((IntKind.wrap .i64 (x0.1*(131:Int)))+(IntKind.wrap .i64 (y4))))+(7:Int))) (1073741823:Int),IntKind.wrap .i64 (x0.2+(1:Int))) else some x0.1) (IntKind.wrap .i64 ((13501:Int)+(a0.length:Int)),(0:Int)):Option (Int)).bind fun x5=> some ((a0,(0:Int),x5),()):=by kernel_rfl
def Hf:TC:=
 (zS [bn 2] (zS [bH 4,bH 5,qM 6 5,yU 7 6,qN 8 0 2 7,zAk 9 8 6364136223846793005,zAq 10 9 1442695040888963407,nz 11 4,yV 0 0 2 12 10] (zS [bH 13,bH 18,mK 14 13 0 2,zAz 17 16 33,mK 19 18 0 2,zAz 22 21 45,[o1 23 (.data (.bin .xor) [.t 17,.t 22])],zAr 24 23 255,af 3 24] (zQ (.join [⟨3,[.i .i64],false⟩,⟨0,bu,false⟩] 144115188042301449 none (zS [bH 25,bH 29,mK 26 25 0 1,mK 30 29 0 0,rY 33 32 28] (zC 34 (zS [af 35 3,bH 36,bH 40,mK 37 36 0 0,mK 41 40 0 1,mJ 44 39 43 1,zAo 46 45,o_ 47 35 46,zAr 48 47 255,af 3 48] (zR [bH 49,bH 50,mK 51 50 0 1,yT 54 53,nz 55 49,yV 0 0 1 56 54])) .skip))) (zS [AL 57 3 2] .ret)))))
def Us:aI:=⟨[.mp [.sl (.ro []) [.d],.d,.d]],(.one false [.d])⟩
def Hg:aJ:=aA []
def Hl (n:Nat):(List Int × Int × Int)->Option ((Int) × List Int × Int × Int):=aB n Hg Hf [bu] [.i .i64] bu [2] (.mp 0)
def jf:=Hl BIG
def Hm:TSp:=⟨Us,[bu],[.i .i64],bu,Ou.j (.mp 0),jf⟩
theorem agO:aL PG Hg 111 Us (Hf.ht 58) (.mp 0)=some (Hf.wc Hg,[2]):=by kernel_rfl
theorem QG:Hm.Ok PG 111:=aM (ak PG) agO (by kernel_rfl)
theorem agP (n) (a0):Hl n a0 = bif decide ((33:Int)<0) then none else bif decide ((45:Int)<0) then none else (bif decide (a0.2.1<(a0.1.length:Int)) then bnd a0.1.length a0.2.1 fun n0=> a0.1[n0]?.bind fun y1=> some (bits .and .i64 (IntKind.wrap .i64 ((bits .and .i64 (bits .xor .i64 (Int.fdiv (IntKind.wrap .i64 ((IntKind.wrap .i64 (a0.2.2*(6364136223846793005:Int)))+(1442695040888963407:Int))) (2 ^ (Nat.min (Int.toNat (33:Int)) (IntKind.bits .i64)))) (Int.fdiv (IntKind.wrap .i64 ((IntKind.wrap .i64 (a0.2.2*(6364136223846793005:Int)))+(1442695040888963407:Int))) (2 ^ (Nat.min (Int.toNat (45:Int)) (IntKind.bits .i64))))) (255:Int))+(IntKind.wrap .i64 (y1)))) (255:Int),(a0.1,IntKind.wrap .i64 (a0.2.1+(1:Int)),IntKind.wrap .i64 ((IntKind.wrap .i64 (a0.2.2*(6364136223846793005:Int)))+(1442695040888963407:Int)))) else some (bits .and .i64 (bits .xor .i64 (Int.fdiv (IntKind.wrap .i64 ((IntKind.wrap .i64 (a0.2.2*(6364136223846793005:Int)))+(1442695040888963407:Int))) (2 ^ (Nat.min (Int.toNat (33:Int)) (IntKind.bits .i64)))) (Int.fdiv (IntKind.wrap .i64 ((IntKind.wrap .i64 (a0.2.2*(6364136223846793005:Int)))+(1442695040888963407:Int))) (2 ^ (Nat.min (Int.toNat (45:Int)) (IntKind.bits .i64))))) (255:Int),(a0.1,a0.2.1,IntKind.wrap .i64 ((IntKind.wrap .i64 (a0.2.2*(6364136223846793005:Int)))+(1442695040888963407:Int)))):Option (Int × (List Int × Int × Int))).bind fun x2=> some (x2.1,x2.2):=by kernel_rfl
def D_:TC:=
 (zS [bn 4] (zQ (zS [af 9 1,zAA 10 9 0] (zC 10 (zS [bn 4] .ret) .skip)) (zQ (zS [af 11 1,zAA 12 11 256] (zC 12 (zS [F_ 13 111 0 0,af 15 1,zAC 16 14 15,af 4 16] .ret) .skip)) (zS [F_ 17 111 0 0,af 5 18] (zS [F_ 19 111 0 0,af 6 20] (zS [F_ 21 111 0 0,af 7 22] (zS [F_ 23 111 0 0,af 8 24] (zS [af 25 5,zAk 26 25 16777216,af 27 6,zAk 28 27 65536,o_ 29 26 28,af 30 7,zAk 31 30 256,o_ 32 29 31,af 33 8,o_ 34 32 33,af 35 1,zAC 36 34 35,af 4 36] .ret))))))))
def QH:aI:=⟨[.mp [.sl (.ro []) [.d],.d,.d],.rd false [.d]],(.one false [.d])⟩
def Ea:aJ:=aA [(111,Hm)]
def Eb (n:Nat):(List Int × Int × Int) × Int->Option ((Int) × List Int × Int × Int):=aB n Ea D_ [bu,[.i .i64]] [.i .i64] bu [4] (.mp 0)
def bv:=Eb BIG
def d_:TSp:=⟨QH,[bu,[.i .i64]],[.i .i64],bu,Ou.j (.mp 0),bv⟩
theorem adt:aL PG Ea 112 QH (D_.ht 37) (.mp 0)=some (D_.wc Ea,[4]):=by kernel_rfl
theorem dZ:d_.Ok PG 112:=aM (ae QG (ak PG)) adt (by kernel_rfl)
theorem adu (n) (a0) (a1):Eb n (a0,a1) = bif decide (a1<=(0:Int)) then some ((0:Int),a0) else bif decide (a1<=(256:Int)) then (jf a0).bind fun r0=> bif decide (a1=0) then none else some (Int.tmod r0.1 a1,r0.2) else (jf a0).bind fun r1=> (jf r1.2).bind fun r2=> (jf r2.2).bind fun r3=> (jf r3.2).bind fun r4=> bif decide (a1=0) then none else some (Int.tmod (IntKind.wrap .i64 ((IntKind.wrap .i64 ((IntKind.wrap .i64 ((IntKind.wrap .i64 (r1.1*(16777216:Int)))+(IntKind.wrap .i64 (r2.1*(65536:Int)))))+(IntKind.wrap .i64 (r3.1*(256:Int)))))+r4.1)) a1,r4.2):=by kernel_rfl
def WZ:TC:=
 (zS [bn 2] (zS [AJ 3 112 11,Ud 5 2 4,af 2 5] .ret))
def afv:aI:=⟨[.mp [.sl (.ro []) [.d],.d,.d]],(.one false [.d])⟩
def W9:aJ:=aA [(112,d_)]
def W_ (n:Nat):(List Int × Int × Int)->Option ((Int) × List Int × Int × Int):=aB n W9 WZ [bu] [.i .i64] bu [2] (.mp 0)
def PR:=W_ BIG
def afw:TSp:=⟨afv,[bu],[.i .i64],bu,Ou.j (.mp 0),PR⟩
theorem aor:aL PG W9 116 afv (WZ.ht 6) (.mp 0)=some (WZ.wc W9,[2]):=by kernel_rfl
theorem alZ:afw.Ok PG 116:=aM (ae dZ (ak PG)) aor (by kernel_rfl)
theorem aos (n) (a0):W_ n a0 = (bv (a0,(11:Int))).bind fun r0=> some (IntKind.wrap .i64 ((2:Int)+r0.1),r0.2):=by kernel_rfl
def Sa:TC:=
 (zS [bf 6] (zQ (.join [⟨6,[.b],false⟩] 32704 none (zR [bM 7 0 1,zAE 9 7 8,Ga 10 9 0 3,fq 12 2 3,zBa,mM 10 13 14 6])) .ret))
def abK:aI:=⟨[.rd false [.d],.rd false [.d],.rd false [.d]],(.one false [.d])⟩
def Sb:aJ:=aA []
def Sc (n:Nat):Int × Int × Int->Option ((Bool) × Unit):=aB n Sb Sa [[.i .i64],[.i .i64],[.i .i64]] [.b] [] [6] .no
def a_:=Sc BIG
def dz:TSp:=⟨abK,[[.i .i64],[.i .i64],[.i .i64]],[.b],[],Ou.j .no,a_⟩
theorem al0:aL PG Sb 42 abK (Sa.ht 15) .no=some (Sa.wc Sb,[6]):=by kernel_rfl
theorem cB:dz.Ok PG 42:=aM (ak PG) al0 (by kernel_rfl)
theorem al1 (n) (a0) (a1) (a2):Sc n (a0,a1,a2) = (bif decide (a1<=a0) then some (decide (a0<=a2)) else some false:Option (Bool)).bind fun x0=> some (x0,()):=by kernel_rfl
def AP:TC:=
 (zS [zBb 4] (zS [xe 11,bK 11 5 11] (zQ (.join [⟨5,[.sl [.i .i64]],false⟩] 2093152 none (zS [bn 6] (.block 0 (.loop [⟨5,[.sl [.i .i64]],false⟩,⟨6,[.i .i64],false⟩] 2093152 (zQ (zS [C9 12 6 0] (zC 14 .skip (.exit 0))) (zQ (.block 1 (zR [bK 5 17 5,af 18 6,KQ 19 18,KV 17 19 20 17 5])) (zR [eu 15 6 6]))))))) (zQ (.join [⟨5,[.sl [.i .i64]],false⟩] 1180591620717409208224 none (zS [bn 7] (.block 2 (.loop [⟨5,[.sl [.i .i64]],false⟩,⟨7,[.i .i64],false⟩] 1180591620717409208224 (zQ (zS [C9 21 7 0] (zC 23 .skip (.exit 2))) (zQ (.join [⟨5,[.sl [.i .i64]],false⟩] 1180591620717344196384 none (.block 3 (zS [bn 8] (.block 4 (.loop [⟨5,[.sl [.i .i64]],false⟩,⟨8,[.i .i64],false⟩] 1180591620717344196384 (zQ (zS [F8 26 8 1] (zC 29 .skip (.exit 4))) (zQ (.join [⟨5,[.sl [.i .i64]],false⟩] 1180591620713116337696 none (.block 5 (zS [fV 32 5,bM 33 1 8,Un 35 33 34 2,iW 38 32 37,Ay 39 5 1 38,af 9 39] (zS [fV 40 5,bM 41 1 8,zKB 43 41 42 2 1,iW 46 40 45,Ay 47 5 1 46,af 10 47] (zQ (.join [⟨5,[.sl [.i .i64]],false⟩] 576180381133307936 none (zS [pq 48 9,kY 50 48 49] (zC 50 (zR [fV 51 5,bM 52 1 8,zKB 54 52 53 2 1,af 57 9,iW 58 51 56,[o4 1 [5,32,40,51] (.store 5 [(0,1)] 0 (.t 58) (.t 57))]]) .skip))) (zS [C9 59 10 9] (zC 61 (zR [fV 62 5,bM 63 1 8,Un 65 63 64 2,af 68 10,iW 69 62 67,zBi 5 62 5 0 69 68]) .skip))))))) (zR [eu 30 8 8])))))))) (zR [eu 24 7 7]))))))) (zS [AB 5 70 5 4] .ret)))))
def MH:aI:=⟨[.rd false [.d],.rd false ny],(.one false gK)⟩
def AQ:aJ:=aA []
def AR (n:Nat):Int × (List aV)->Option ((List Int) × Unit):=aB n AQ AP [[.i .i64],[.sl [.i .i64,.i .i64]]] [.sl [.i .i64]] [] [4] .no
def nA:=AR BIG
def si:TSp:=⟨MH,[[.i .i64],[.sl [.i .i64,.i .i64]]],[.sl [.i .i64]],[],Ou.j .no,nA⟩
theorem abL:aL PG AQ 142 MH (AP.ht 71) .no=some (AP.wc AQ,[4]):=by kernel_rfl
theorem xM:si.Ok PG 142:=aM (ak PG) abL (by kernel_rfl)
theorem abM (n) (a0) (a1):AR n (a0,a1) = (aO n (X:=(List Int) × Int) (B:=(List Int)) (fun self1 x0=> bif decide (x0.2<a0) then bif decide (x0.1.length+[x0.2].length<=4294967296) then self1 (x0.1++[x0.2],IntKind.wrap .i64 (x0.2+(1:Int))) else none else some x0.1) ([],(0:Int)):Option ((List Int))).bind fun x2=> (aO n (X:=(List Int) × Int) (B:=(List Int)) (fun self4 x3=> bif decide (x3.2<a0) then (aO n (X:=(List Int) × Int) (B:=(List Int)) (fun self6 x5=> bif decide (x5.2<(a1.length:Int)) then (bnd a1.length x5.2 fun n7=> a1[n7]?.bind fun y8=> bnd x5.1.length y8.1 fun n9=> x5.1[n9]?.bind fun y10=> bnd a1.length x5.2 fun n11=> a1[n11]?.bind fun y12=> bnd x5.1.length y12.2 fun n13=> x5.1[n13]?.bind fun y14=> (bif decide (y10<y14) then bnd a1.length x5.2 fun n15=> a1[n15]?.bind fun y16=> bnd x5.1.length y16.2 fun n17=> x5.1[n17]?.bind fun y18=> some (x5.1.set n17 y10) else some x5.1:Option ((List Int))).bind fun x19=> bif decide (y14<y10) then bnd a1.length x5.2 fun n20=> a1[n20]?.bind fun y21=> bnd x19.length y21.1 fun n22=> x19[n22]?.bind fun y23=> some (x19.set n22 y14) else some x19:Option ((List Int))).bind fun x24=> self6 (x24,IntKind.wrap .i64 (x5.2+(1:Int))) else some x5.1) (x3.1,(0:Int)):Option ((List Int))).bind fun x25=> self4 (x25,IntKind.wrap .i64 (x3.2+(1:Int))) else some x3.1) (x2,(0:Int)):Option ((List Int))).bind fun x26=> some (x26,()):=by kernel_rfl
def Ho:TC:=
 (zS [Ue 4 1000000005,bf 5] (zQ (.seq (.join [⟨16,[.b],false⟩] 130560 none (zR [af 9 0,uI 10 42 9 12,oF 11 10,dH 13 1 3,CY 42 13 1 3 14 14 3,uK 15 14 3 12])) (zC 16 (zS [[o1 17 (.build dO [])],fZ 4 17 4 17,bf 5] .ret) .skip)) (zS [bM 18 0 1,[o1 20 (.make (.t 19) [.i .i64]),o5 (.build dO [(0,.t 18),(4,.t 20)]) 21 20],Ue 6 1000000007,fZ 6 21 6 21] (zQ (.join [⟨6,dO,false⟩] 68715282624 none (zS [bn 7] (.block 0 (.loop [⟨6,dO,false⟩,⟨7,[.i .i64],false⟩] 68715282624 (zQ (zS [C9 22 7 0] (zC 24 .skip (.exit 0))) (zQ (.block 1 (zR [bM 29 7 1,uM 27 6 1,zAC 31 29 30,Ud 32 1 31,KQ 33 32,Mq 28 28 33 34 28 28 6 34,iX 35,F5 6 34 28 6 1 35 34])) (zR [eu 25 7 7]))))))) (zQ (.join [⟨6,dO,false⟩] 562881233944896 none (zS [bn 8] (.block 2 (.loop [⟨6,dO,false⟩,⟨8,[.i .i64],false⟩] 562881233944896 (zQ (zS [C9 36 8 1] (zC 38 .skip (.exit 2))) (zQ (.block 3 (zR [af 43 0,uM 41 6 3,Qk 44,kZ 45 142 43 44,[o5 (.sli [.sl [.i .i64]] [.t 45]) 46 45,⟨false,[42],[],.det 3 (.app (some 42) 46),[47,42,46,42,6],(some 47),none⟩],iX 48,F5 6 47 42 6 3 48 47])) (zR [eu 39 8 8]))))))) (zS [uL 49 6 15 4 4 6,fI 5] .ret))))))
def Ut:aI:=⟨[.rd false [.d],.rd false [.d]],(.tup [(true,15),(false,1)] Ct0)⟩
def Hq:aJ:=aA [(42,dz),(142,si)]
def Hr (n:Nat):Int × Int->Option ((Int × List Int × List aV × List (List Int) × List Int × Int × Int × Int × Int × Int × Int × Int × List aV × Int × List R_ × Bool) × Unit):=aB n Hq Ho [[.i .i64],[.i .i64]] [.i .i64,.sl [.i .i64],.sl [.i .i64,.i .i64],.sl [.sl [.i .i64]],.sl [.i .i64],.i .i64,.i .i64,.i .i64,.i .i64,.i .i64,.i .i64,.i .i64,.sl [.i .i64,.i .i64],.i .i64,.sl R9,.b] [] [4,5] .no
def Ht:=Hr BIG
def Uu:TSp:=⟨Ut,[[.i .i64],[.i .i64]],[.i .i64,.sl [.i .i64],.sl [.i .i64,.i .i64],.sl [.sl [.i .i64]],.sl [.i .i64],.i .i64,.i .i64,.i .i64,.i .i64,.i .i64,.i .i64,.i .i64,.sl [.i .i64,.i .i64],.i .i64,.sl R9,.b],[],Ou.j .no,Ht⟩
theorem agQ:aL PG Hq 110 Ut (Ho.ht 50) .no=some (Ho.wc Hq,[4,5]):=by kernel_rfl
theorem adv:Uu.Ok PG 110:=aM (ae cB (ae xM (ak PG))) agQ (by kernel_rfl)
theorem agR (n) (a0) (a1):Hr n (a0,a1) = ((a_ (a0,(1:Int),(12:Int))).bind fun r0=> bif !r0.1 then some true else (a_ (a1,(1:Int),(3:Int))).bind fun r1=> some !r1.1:Option (Bool)).bind fun x2=> bif x2 then some (((0:Int),[],[],[],[],(0:Int),(0:Int),(0:Int),(0:Int),(0:Int),(0:Int),(0:Int),[],(0:Int),[],false),()) else bif decide (0<=a1) then bif decide ((Int.toNat a1)<=4294967296) then (aO n (X:=jY × Int) (B:=jY) (fun self4 x3=> bif decide (x3.2<a0) then bif decide (a1=0) then none else bif decide (x3.1.2.1.length+([IntKind.wrap .i64 ((1:Int)+(Int.tmod x3.2 a1))]).length<=4294967296) then self4 ((x3.1.1,x3.1.2.1++([IntKind.wrap .i64 ((1:Int)+(Int.tmod x3.2 a1))]),x3.1.2.2),IntKind.wrap .i64 (x3.2+(1:Int))) else none else some x3.1) ((a0,[],[],[],List.replicate (Int.toNat a1) (0:Int),(0:Int),(0:Int),(0:Int),(0:Int),(0:Int),(0:Int),(0:Int),[],(0:Int),[]),(0:Int)):Option (jY)).bind fun x5=> (aO n (X:=jY × Int) (B:=jY) (fun self7 x6=> bif decide (x6.2<a1) then (nA (a0,[])).bind fun r8=> bif decide (x6.1.2.2.2.1.length+[r8.1].length<=4294967296) then self7 ((x6.1.1,x6.1.2.1,x6.1.2.2.1,x6.1.2.2.2.1++[r8.1],x6.1.2.2.2.2),IntKind.wrap .i64 (x6.2+(1:Int))) else none else some x6.1) (x5,(0:Int)):Option (jY)).bind fun x9=> some ((x9.1,x9.2.1,x9.2.2.1,x9.2.2.2.1,x9.2.2.2.2.1,x9.2.2.2.2.2.1,x9.2.2.2.2.2.2.1,x9.2.2.2.2.2.2.2.1,x9.2.2.2.2.2.2.2.2.1,x9.2.2.2.2.2.2.2.2.2.1,x9.2.2.2.2.2.2.2.2.2.2.1,x9.2.2.2.2.2.2.2.2.2.2.2.1,x9.2.2.2.2.2.2.2.2.2.2.2.2.1,x9.2.2.2.2.2.2.2.2.2.2.2.2.2.1,x9.2.2.2.2.2.2.2.2.2.2.2.2.2.2,true),()) else none else none:=by kernel_rfl
def MI:TC:=
 (zS [zBB 2 1000000003,bf 3] (zQ (zS [af 4 0,uI 5 42 4 12,h_ 6 5] (zC 6 (zS [zBC 7,fZ 2 7 2 7,bf 3] .ret) .skip)) (zS [af 8 0,[o1 9 (.build eX [(0,.t 8)])],fZ 2 9 2 9,fI 3] .ret)))
def YC:aI:=⟨[.rd false [.d]],(.tup [(true,2),(false,1)] [.d,.sl (.own none) [.d,.d,.d,.d],.d])⟩
def MJ:aJ:=aA [(42,dz)]
def MK (n:Nat):Int->Option (aqb × Unit):=aB n MJ MI [[.i .i64]] agN [] [2,3] .no
def ML:=MK BIG
def YD:TSp:=⟨YC,[[.i .i64]],agN,[],Ou.j .no,ML⟩
theorem ajR:aL PG MJ 179 YC (MI.ht 10) .no=some (MI.wc MJ,[2,3]):=by kernel_rfl
theorem agS:YD.Ok PG 179:=aM (ae cB (ak PG)) ajR (by kernel_rfl)
theorem ajS (n) (a0):MK n a0 = (a_ (a0,(1:Int),(12:Int))).bind fun r0=> bif !r0.1 then some (((0:Int),[],false),()) else some ((a0,[],true),()):=by kernel_rfl
def Ec:TC:=
 (zS [zBD 4 1000000005,bf 5] (zS [af 9 1,KY 10 179 9 8,zDa 8 2 11 8,gW 12 8 2,zBB 6 1000000007,AC 6 11 6 11] (zQ (.seq (.join [⟨19,[.b],false⟩] 1040384 none (zR [af 13 7,oF 14 13,dH 16 0 2,CY 42 16 1 3 17 17 2,uK 18 17 2 15])) (zC 19 (zS [[o1 20 (.build yS [])],fZ 4 20 4 20,bf 5] .ret) .skip)) (zS [Gb 21 0 6 2,[⟨false,[22],[],.det 2 (.build yS [(0,.t 21),(1,.t 22)]),[23,22,22,6],(some 23),none⟩],fZ 4 23 4 23,fI 5] .ret))))
def QI:aI:=⟨[.rd false [.d],.rd false [.d]],(.tup [(true,7),(false,1)] [.d,.d,.sl (.own none) [.d,.d,.d,.d],.d,.d,.sl (.own none) [.d,.d],.sl (.own none) [.d],.d])⟩
def Ee:aJ:=aA [(179,YD),(42,dz)]
def Ef (n:Nat):Int × Int->Option ((Int × Int × List gU × Int × Bool × List aV × List Int × Bool) × Unit):=aB n Ee Ec [[.i .i64],[.i .i64]] [.i .i64,.i .i64,.sl kJ,.i .i64,.b,.sl [.i .i64,.i .i64],.sl [.i .i64],.b] [] [4,5] .no
def Eg:=Ef BIG
def QJ:TSp:=⟨QI,[[.i .i64],[.i .i64]],[.i .i64,.i .i64,.sl kJ,.i .i64,.b,.sl [.i .i64,.i .i64],.sl [.i .i64],.b],[],Ou.j .no,Eg⟩
theorem adw:aL PG Ee 114 QI (Ec.ht 24) .no=some (Ec.wc Ee,[4,5]):=by kernel_rfl
theorem abN:QJ.Ok PG 114:=aM (ae agS (ae cB (ak PG))) adw (by kernel_rfl)
theorem adx (n) (a0) (a1):Ef n (a0,a1) = (ML a1).bind fun r0=> (bif !r0.1.2.2 then some true else (a_ (a0,(1:Int),(3:Int))).bind fun r1=> some !r1.1:Option (Bool)).bind fun x2=> bif x2 then some (((0:Int),(0:Int),[],(0:Int),false,[],[],false),()) else some ((a0,r0.1.1,r0.1.2.1,(0:Int),false,[],[],true),()):=by kernel_rfl
def Hu:TC:=
 (zS [bn 2] (zS [xh 4 0 4,zDc 6 5 4,Ud 7 12 6,af 3 7] (zQ (zS [af 8 3,w_ 9 8 60] (zC 9 (zS [mI 2 60] .ret) .skip)) (zS [AL 10 3 2] .ret))))
def Uv:aI:=⟨[.rd false gK],(.one false [.d])⟩
def Hw:aJ:=aA []
def Hy (n:Nat):List (Int)->Option ((Int) × Unit):=aB n Hw Hu [[.sl [.i .u8]]] [.i .i64] [] [2] .no
def Hz:=Hy BIG
def Uw:TSp:=⟨Uv,[[.sl [.i .u8]]],[.i .i64],[],Ou.j .no,Hz⟩
theorem agU:aL PG Hw 117 Uv (Hu.ht 11) .no=some (Hu.wc Hw,[2]):=by kernel_rfl
theorem ady:Uw.Ok PG 117:=aM (ak PG) agU (by kernel_rfl)
theorem agV (n) (a0):Hy n a0 = bif decide ((4:Int)=0) then none else bif decide ((60:Int)<(IntKind.wrap .i64 ((12:Int)+(IntKind.wrap .i64 (Int.tdiv (a0.length:Int) (4:Int)))))) then some ((60:Int),()) else some (IntKind.wrap .i64 ((12:Int)+(IntKind.wrap .i64 (Int.tdiv (a0.length:Int) (4:Int)))),()):=by kernel_rfl
def Xa:TC:=
 (zS [kN 1 0] (zS [iX 3,yU 4 3,qN 5 1 9 4,zDe 6 5 0,af 2 6] .ret))
def afx:aI:=⟨[.rd true KP],(.one false [.d])⟩
def Xb:aJ:=aA []
def afy (n:Nat):jY->Option ((Bool) × Unit):=aB n Xb Xa [dO] [.b] [] [2] .no
def Aa:=afy BIG
def PS:TSp:=⟨afx,[dO],[.b],[],Ou.j .no,Aa⟩
theorem aot:aL PG Xb 39 afx (Xa.ht 7) .no=some (Xa.wc Xb,[2]):=by kernel_rfl
theorem Sg:PS.Ok PG 39:=aM (ak PG) aot (by kernel_rfl)
theorem aou (n) (a0):afy n a0 = some (!decide (a0.2.2.2.2.2.2.2.2.2.1=(0:Int)),()):=by kernel_rfl
def xN:TC:=
 (zS [bn 4] (zS [af 5 1,qQ 6 1,kX 8 7,kK 112 8 9 9,iW 10 5 9,Ay 11 5 1 10,af 4 11] .ret))
def K4:aI:=⟨[.mp [.sl (.ro []) [.d],.d,.d],.rd false gK],(.one false [.d])⟩
def xO:aJ:=aA [(112,d_)]
def xP (n:Nat):(List Int × Int × Int) × List (Int)->Option ((Int) × List Int × Int × Int):=aB n xO xN [bu,[.sl [.i .i64]]] [.i .i64] bu [4] (.mp 0)
def bW:=xP BIG
def iU:TSp:=⟨K4,[bu,[.sl [.i .i64]]],[.i .i64],bu,Ou.j (.mp 0),bW⟩
theorem Zj:aL PG xO 125 K4 (xN.ht 12) (.mp 0)=some (xN.wc xO,[4]):=by kernel_rfl
theorem jB:iU.Ok PG 125:=aM (ae dZ (ak PG)) Zj (by kernel_rfl)
theorem Zk (n) (a0) (a1):xP n (a0,a1) = (bv (a0,(a1.length:Int))).bind fun r0=> bnd a1.length r0.1 fun n1=> a1[n1]?.bind fun y2=> some (y2,r0.2):=by kernel_rfl
def MM:TC:=
 (zS [zDg 8 1000000009] (zS [af 10 3,bH 11,[⟨false,[],[],.det 10 (.sli [.i .i64] [kO 1,kO 1,kO 1,kO 1,kO 2,kO 2,kO 3,kO 3,kO 4]),[12,1000000001,1000000002,1000000003,1000000004,1000000005,1000000006,1000000007,1000000008,1000000009],(some 12),none⟩],kK 125 12 13 13,Qy 14 1 112,Qy 17 1 112,[o1 20 (.build gy [(0,.t 10),(1,.t 13),(2,.t 16),(3,.t 19)])],zDg 9 1000000010,gN 9 9 20] (zQ (.join [⟨0,bu,false⟩,⟨9,gy,false⟩] 534774273 none (zS [bP 21 9 1,pg 23 22 4] (zC 23 (zR [Qy 24 2 112,Ud 27 1 26,jX 28 9 9 3 27]) .skip))) (zQ (.join [⟨0,bu,false⟩,⟨9,gy,false⟩] 2251799276814849 none (zS [AJ 29 112 30] (.block 0 (zS [C_ 32 30 0] (zC 31 (zR [qQ 33 1,[⟨false,[],[],.det 4 (.sli [.i .i64] [kO (-1),.t 34,kO 11,kO 12]),[35,1000000001,1000000003,1000000004],(some 35),none⟩],kK 125 35 36 36,jX 37 9 9 2 36]) (zS [jq 39 30 1 38] (zC 38 (zR [qQ 40 1,[⟨false,[],[],.det 4 (.sli [.i .i64] [kO (-1),kO 0,.t 41,kO 12]),[42,1000000001,1000000002,1000000004],(some 42),none⟩],kK 125 42 43 43,jX 44 9 9 3 43]) (zS [jq 46 30 2 45] (zC 45 (zR [bH 47,[⟨false,[],[],.det 3 (.sli [.i .i64] [kO 0,kO 5]),[48,1000000001,1000000002],(some 48),none⟩],kK 125 48 49 49,jX 50 9 9 1 49]) .skip))))))))) (zS [dY 51 9 4,gN 8 8 51] .ret)))))
def YE:aI:=⟨[.mp [.sl (.ro []) [.d],.d,.d],.rd false [.d],.rd false [.d],.rd false [.d]],(.one true [.d,.d,.d,.d])⟩
def MN:aJ:=aA [(125,iU),(112,d_)]
def MO (n:Nat):(List Int × Int × Int) × Int × Int × Int->Option (r_ × List Int × Int × Int):=aB n MN MM [bu,[.i .i64],[.i .i64],[.i .i64]] gy bu [8] (.mp 0)
def xn:=MO BIG
def MP:TSp:=⟨YE,[bu,[.i .i64],[.i .i64],[.i .i64]],gy,bu,Ou.j (.mp 0),xn⟩
theorem ajT:aL PG MN 41 YE (MM.ht 52) (.mp 0)=some (MM.wc MN,[8]):=by kernel_rfl
theorem Ux:MP.Ok PG 41:=aM (ae jB (ae dZ (ak PG))) ajT (by kernel_rfl)
theorem ajU (n) (a0) (a1) (a2) (a3):MO n (a0,a1,a2,a3) = (bW (a0,[(1:Int),(1:Int),(1:Int),(1:Int),(2:Int),(2:Int),(3:Int),(3:Int),(4:Int)])).bind fun r0=> (bv (r0.2,a1)).bind fun r1=> (bv (r1.2,a1)).bind fun r2=> (bif decide (r0.1=(4:Int)) then (bv (r2.2,a2)).bind fun r3=> some (r3.2,(a3,r0.1,r1.1,IntKind.wrap .i64 ((1:Int)+r3.1))) else some (r2.2,(a3,r0.1,r1.1,r2.1)):Option ((List Int × Int × Int) × r_)).bind fun x4=> ((bv (x4.1,(30:Int))).bind fun r5=> bif decide (r5.1=(0:Int)) then (bW (r5.2,[(-1:Int),a1,(11:Int),(12:Int)])).bind fun r6=> some (r6.2,(x4.2.1,x4.2.2.1,r6.1,x4.2.2.2.2)) else bif decide (r5.1=(1:Int)) then (bW (r5.2,[(-1:Int),(0:Int),a1,(12:Int)])).bind fun r7=> some (r7.2,(x4.2.1,x4.2.2.1,x4.2.2.2.1,r7.1)) else bif decide (r5.1=(2:Int)) then (bW (r5.2,[(0:Int),(5:Int)])).bind fun r8=> some (r8.2,(x4.2.1,r8.1,x4.2.2.2)) else some (r5.2,x4.2):Option ((List Int × Int × Int) × r_)).bind fun x9=> some (x9.2,x9.1):=by kernel_rfl
def sj:TC:=
 (zS [dG 1 0,Ql 2 1000000003] (zS [Qk 3,iY 4 1 2 4,xf 3 5 6 3,iX 7,Qm 1 6 1 2 7 6] (zS [mH 8 1 4,zBz 8 2 8 2 8 8 1] .ret)))
def Db:aI:=⟨[.rd true Aw],(.one true Aw)⟩
def su:aJ:=aA []
def mO (n:Nat):kP->Option (kP × Unit):=aB n su sj [dP] dP [] [2] .no
def jZ:=mO BIG
def sw:TSp:=⟨Db,[dP],dP,[],Ou.j .no,jZ⟩
theorem Uy:aL PG su 138 Db (sj.ht 9) .no=some (sj.wc su,[2]):=by kernel_rfl
theorem AU:sw.Ok PG 138:=aM (ak PG) Uy (by kernel_rfl)
theorem Dc (n) (a0):mO n a0 = bif decide (0+a0.2.2.1.length<=4294967296) then some ((a0.1,a0.2.1,[]++a0.2.2.1,a0.2.2.2),()) else none:=by kernel_rfl
def HV:TC:=
 (zS [dG 1 0,Ue 2 1000000003] (zS [xe 5,iY 6 1 1 6,xf 5 7 8 5,iX 9,Qm 1 8 1 1 9 8] (zS [Qk 10,bP 11 1 2,xf 10 12 13 10,uO 14 1 13 1 2 13] (zS [xe 15,bP 16 1 4,xf 15 17 18 15,uO 19 1 18 1 4 18] (zS [[o1 20 (.sli R9 [])],bP 21 1 14,xf 20 22 23 20,uO 24 1 23 1 14 23] (zS [[o1 25 (.sli [.sl [.i .i64]] [])],bK 25 3 25] (zQ (.join [⟨3,[.sl [.sl [.i .i64]]],false⟩] 8796025913368 none (zS [bn 4] (.block 0 (.loop [⟨3,[.sl [.sl [.i .i64]]],false⟩,⟨4,[.i .i64],false⟩] 8796025913368 (zQ (zS [Uo 26 4 1 3 29] (zC 30 .skip (.exit 0))) (zQ (.block 1 (zR [bK 3 33 3,xe 34,bP 35 1 3,af 37 4,mJ 38 36 37 1,xf 34 39 40 34,[o5 (.sli [.sl [.i .i64]] [.t 40]) 41 40],zDn 33 41 42 33 41 42,bK 42 3 42])) (zR [eu 31 4 4]))))))) (zS [bK 3 43 3,uO 44 1 43 1 3 43] (zS [yZ 45,Yw 47 1 10 46 4,ib 48 138 47,yZ 49,Qm 1 48 1 10 50 48] (zS [uL 51 1 15 2 2 1] .ret))))))))))
def Uz:aI:=⟨[.rd true KP],(.one true KP)⟩
def HY:aJ:=aA [(138,sw)]
def HZ (n:Nat):jY->Option (jY × Unit):=aB n HY HV [dO] dO [] [2] .no
def sD:=HZ BIG
def H5:TSp:=⟨Uz,[dO],dO,[],Ou.j .no,sD⟩
theorem agW:aL PG HY 51 Uz (HV.ht 52) .no=some (HV.wc HY,[2]):=by kernel_rfl
theorem QK:H5.Ok PG 51:=aM (ae AU (ak PG)) agW (by kernel_rfl)
theorem agX (n) (a0):HZ n a0 = bif decide (0+a0.2.1.length<=4294967296) then bif decide (0+a0.2.2.1.length<=4294967296) then bif decide (0+a0.2.2.2.2.1.length<=4294967296) then bif decide (0+a0.2.2.2.2.2.2.2.2.2.2.2.2.2.2.length<=4294967296) then (aO n (X:=(List (List Int)) × Int) (B:=(List (List Int))) (fun self1 x0=> bif decide (x0.2<(a0.2.2.2.1.length:Int)) then bnd a0.2.2.2.1.length x0.2 fun n2=> a0.2.2.2.1[n2]?.bind fun y3=> bif decide (0+y3.length<=4294967296) then bif decide (x0.1.length+([[]++y3]).length<=4294967296) then self1 (x0.1++([[]++y3]),IntKind.wrap .i64 (x0.2+(1:Int))) else none else none else some x0.1) ([],(0:Int)):Option ((List (List Int)))).bind fun x4=> (jZ (a0.2.2.2.2.2.2.2.2.2.2.1,a0.2.2.2.2.2.2.2.2.2.2.2.1,a0.2.2.2.2.2.2.2.2.2.2.2.2.1,a0.2.2.2.2.2.2.2.2.2.2.2.2.2.1)).bind fun r5=> some ((a0.1,[]++a0.2.1,[]++a0.2.2.1,x4,[]++a0.2.2.2.2.1,a0.2.2.2.2.2.1,a0.2.2.2.2.2.2.1,a0.2.2.2.2.2.2.2.1,a0.2.2.2.2.2.2.2.2.1,a0.2.2.2.2.2.2.2.2.2.1,r5.1.1,r5.1.2.1,r5.1.2.2.1,r5.1.2.2.2,[]++a0.2.2.2.2.2.2.2.2.2.2.2.2.2.2),()) else none else none else none else none:=by kernel_rfl
def MQ:TC:=
 (zS [kN 3 1] (zQ (.join [⟨4,[.b],false⟩] 268435440 none (zR [af 5 0,uI 6 42 5 12,af 7 6,jJ 8 2,lN 9 3 0 8 2,fq 10 0 2,zLc 11 10 2 42 9 2,ic 7 12 13,AA 15 9 3 1 9,fq 17 0 9,zLc 18 17 9 42 16 9,ic 14 19 20,Mx 22 16 3 0 3 1,zDt 26 23 25 16,mM 21 26 27 4])) .ret))
def YF:aI:=⟨[.rd false [.d],.rd true [.d,.d]],(.one false [.d])⟩
def MR:aJ:=aA [(42,dz)]
def MS (n:Nat):Int × aV->Option ((Bool) × Unit):=aB n MR MQ [[.i .i64],[.i .i64,.i .i64]] [.b] [] [4] .no
def qR:=MS BIG
def xq:TSp:=⟨YF,[[.i .i64],[.i .i64,.i .i64]],[.b],[],Ou.j .no,qR⟩
theorem ajV:aL PG MR 128 YF (MQ.ht 28) .no=some (MQ.wc MR,[4]):=by kernel_rfl
theorem zt:xq.Ok PG 128:=aM (ae cB (ak PG)) ajV (by kernel_rfl)
theorem ajW (n) (a0) (a1):MS n (a0,a1) = ((a_ (a0,(1:Int),(12:Int))).bind fun r0=> bif r0.1 then (a_ (a1.1,(0:Int),IntKind.wrap .i64 (a0-(1:Int)))).bind fun r1=> bif r1.1 then (a_ (a1.2,(0:Int),IntKind.wrap .i64 (a0-(1:Int)))).bind fun r2=> bif r2.1 then some (decide (a1.1<a1.2)) else some false else some false else some false:Option (Bool)).bind fun x3=> some (x3,()):=by kernel_rfl
def H6:TC:=
 (zS [dG 2 0,kN 3 1] (zQ (.join [⟨4,[.b],false⟩] 16777200 none (zR [iY 5 2 0 5,iY 7 3 0 7,kY 9 6 8,af 10 9,oD 11 5 2 0 5,oD 13 5 3 0 5,zDw 15 12 14 5,dH 16 15 5,Mx 17 11 2 1 3 1,zDt 21 18 20 11,KZ 16 21 22 22 5 10,af 4 23])) .ret))
def UA:aI:=⟨[.rd true [.d,.d],.rd true [.d,.d]],(.one false [.d])⟩
def H7:aJ:=aA []
def H8 (n:Nat):aV × aV->Option ((Bool) × Unit):=aB n H7 H6 [[.i .i64,.i .i64],[.i .i64,.i .i64]] [.b] [] [4] .no
def sF:=H8 BIG
def H9:TSp:=⟨UA,[[.i .i64,.i .i64],[.i .i64,.i .i64]],[.b],[],Ou.j .no,sF⟩
theorem agY:aL PG H7 187 UA (H6.ht 24) .no=some (H6.wc H7,[4]):=by kernel_rfl
theorem QL:H9.Ok PG 187:=aM (ak PG) agY (by kernel_rfl)
theorem agZ (n) (a0) (a1):H8 n (a0,a1) = (bif decide (a0.1<a1.1) then some true else bif decide (a0.1=a1.1) then some (decide (a0.2<a1.2)) else some false:Option (Bool)).bind fun x0=> some (x0,()):=by kernel_rfl
def Eh:TC:=
 (zS [bf 4] (zQ (.join [] 68719476720 (some [⟨4,[.b],false⟩]) (zS [bn 5] (.block 0 (.loop [⟨5,[.i .i64],false⟩] 68719476720 (zQ (zS [bM 6 5 1,kX 8 7,kY 9 6 8] (zC 9 .skip (.exit 0))) (zQ (.join [] 68719472656 (some [⟨4,[.b],false⟩]) (.block 1 (zQ (.join [⟨35,[.b],false⟩] 68719472640 none (zR [bM 12 0 1,Uq 14 5 13 2 2,kZ 17 128 12 16,oF 18 17,dH 20 5 7,Uf 21 20 0 7,dH 22 21 7,fq 23 1 10,fq 24 5 10,zDr 25 24 10,CZ 26 23 25 10,zDB 27 23 2 26 2 10,fq 28 1 10,fq 29 5 10,CZ 30 28 29 10,zDB 31 28 2 30 2 10,qP 187 27 31 32 32 10,Qn 33 32 10,KZ 22 33 34 34 7 19])) (zC 35 (zS [bf 4] .ret) .skip)))) (zR [eu 10 5 5]))))))) (zS [af 36 1,kX 37 36,zAA 38 37 66,af 4 38] .ret)))
def QM:aI:=⟨[.rd false [.d],.rd false ny],(.one false [.d])⟩
def Ei:aJ:=aA [(128,xq),(187,H9)]
def Ej (n:Nat):Int × (List aV)->Option ((Bool) × Unit):=aB n Ei Eh [[.i .i64],[.sl [.i .i64,.i .i64]]] [.b] [] [4] .no
def l5:=Ej BIG
def pz:TSp:=⟨QM,[[.i .i64],[.sl [.i .i64,.i .i64]]],[.b],[],Ou.j .no,l5⟩
theorem adz:aL PG Ei 139 QM (Eh.ht 39) .no=some (Eh.wc Ei,[4]):=by kernel_rfl
theorem sG:pz.Ok PG 139:=aM (ae zt (ae QL (ak PG))) adz (by kernel_rfl)
theorem adA (n) (a0) (a1):Ej n (a0,a1) =
 (aO n (X:=Int) (B:=(Unit) ⊕ (Bool)) (fun self1 x0=>
  bif decide (x0<(a1.length:Int)) then
   ((bnd a1.length x0 fun n2=>
    a1[n2]?.bind fun y3=>
    (qR (a0,y3)).bind fun r4=>
    bif !r4.1 then
     some true
    else bif decide ((0:Int)<x0) then
     bnd a1.length (IntKind.wrap .i64 (x0-(1:Int))) fun n5=>
     a1[n5]?.bind fun y6=>
     bnd a1.length x0 fun n7=>
     a1[n7]?.bind fun y8=>
     (sF (y6,y8)).bind fun r9=>
     some !r9.1
    else some false:Option (Bool)).bind fun x10=>
    bif x10 then
     some (Sum.inr false)
    else some (Sum.inl ()):Option ((Unit) ⊕ (Bool))).bind fun y=>match y with
   | .inl x11=>
    self1 (IntKind.wrap .i64 (x0+(1:Int)))
   | .inr x11=>
    some (Sum.inr x11)
  else some (Sum.inl ())) (0:Int):Option ((Unit) ⊕ (Bool))).bind fun y=>match y with
 | .inl x12=>
  some (decide ((a1.length:Int)<=(66:Int)),())
 | .inr x12=>
  some (x12,()):=by kernel_rfl
def AY:TC:=
 (zS [bf 4] (zQ (zS [xh 6 1 6,af 8 0,Qo 9 7 8] (zC 9 (zS [bf 4] .ret) .skip)) (zQ (.join [] 68719475760 (some [⟨4,[.b],false⟩]) (zS [bn 5] (.block 0 (.loop [⟨5,[.i .i64],false⟩] 68719475760 (zQ (zS [C9 10 5 0] (zC 12 .skip (.exit 0))) (zQ (.join [] 68719443984 (some [⟨4,[.b],false⟩]) (.block 1 (zQ (.join [⟨35,[.b],false⟩] 68719443968 none (zR [bM 15 1 5,af 19 5,mJ 17 15 16 1,Yx 20 42 18 19,oF 21 20,dH 23 1 7,dH 24 1 7,dH 25 5 7,Ug 26 24 25 7,zEc 27 24 1 26 7,Ug 28 23 27 7,zEc 29 23 1 28 7,dH 30 1 7,dH 31 5 7,Ug 32 30 31 7,zEc 33 30 1 32 7,F9 34 29 33 7 22])) (zC 35 (zS [bf 4] .ret) .skip)))) (zR [eu 13 5 5]))))))) (zS [fI 4] .ret))))
def MU:aI:=⟨[.rd false [.d],.rd false gK],(.one false [.d])⟩
def AZ:aJ:=aA [(42,dz)]
def A7 (n:Nat):Int × List (Int)->Option ((Bool) × Unit):=aB n AZ AY [[.i .i64],[.sl [.i .i64]]] [.b] [] [4] .no
def sH:=A7 BIG
def A8:TSp:=⟨MU,[[.i .i64],[.sl [.i .i64]]],[.b],[],Ou.j .no,sH⟩
theorem abO:aL PG AZ 140 MU (AY.ht 36) .no=some (AY.wc AZ,[4]):=by kernel_rfl
theorem K5:A8.Ok PG 140:=aM (ae cB (ak PG)) abO (by kernel_rfl)
theorem abP (n) (a0) (a1):A7 n (a0,a1) =
 bif !decide ((a1.length:Int)=a0) then
  some (false,())
 else (aO n (X:=Int) (B:=(Unit) ⊕ (Bool)) (fun self1 x0=>
  bif decide (x0<a0) then
   ((bnd a1.length x0 fun n2=>
    a1[n2]?.bind fun y3=>
    (a_ (y3,(0:Int),x0)).bind fun r4=>
    bif !r4.1 then
     some true
    else bnd a1.length x0 fun n5=>
    a1[n5]?.bind fun y6=>
    bnd a1.length y6 fun n7=>
    a1[n7]?.bind fun y8=>
    bnd a1.length x0 fun n9=>
    a1[n9]?.bind fun y10=>
    some (!decide (y8=y10)):Option (Bool)).bind fun x11=>
    bif x11 then
     some (Sum.inr false)
    else some (Sum.inl ()):Option ((Unit) ⊕ (Bool))).bind fun y=>match y with
   | .inl x12=>
    self1 (IntKind.wrap .i64 (x0+(1:Int)))
   | .inr x12=>
    some (Sum.inr x12)
  else some (Sum.inl ())) (0:Int):Option ((Unit) ⊕ (Bool))).bind fun y=>match y with
 | .inl x13=>
  some (true,())
 | .inr x13=>
  some (x13,()):=by kernel_rfl
def H_:TC:=
 (zS [dG 2 0,bn 4] (zQ (.join [] 4194288 (some [⟨4,[.i .i64],false⟩]) (zS [bn 5] (.block 0 (.loop [⟨5,[.i .i64],false⟩] 4194288 (zQ (zS [af 6 5,iY 7 2 14 7,kX 9 8,kY 10 6 9] (zC 10 .skip (.exit 0))) (zQ (.block 1 (zS [iX 13,qN 14 2 14 13,af 15 5,Un 16 14 15 6,af 19 1,yX 20 18 19] (zC 20 (zS [AL 21 5 4] .ret) .skip))) (zR [eu 11 5 5]))))))) (zS [zEf 4] .ret)))
def UB:aI:=⟨[.rd true KP,.rd false [.d]],(.one false [.d])⟩
def Ia:aJ:=aA []
def Ib (n:Nat):jY × Int->Option ((Int) × Unit):=aB n Ia H_ [dO,[.i .i64]] [.i .i64] [] [4] .no
def sI:=Ib BIG
def zu:TSp:=⟨UB,[dO,[.i .i64]],[.i .i64],[],Ou.j .no,sI⟩
theorem ag0:aL PG Ia 53 UB (H_.ht 22) .no=some (H_.wc Ia,[4]):=by kernel_rfl
theorem El:zu.Ok PG 53:=aM (ak PG) ag0 (by kernel_rfl)
theorem ag1 (n) (a0) (a1):Ib n (a0,a1) = (aO n (X:=Int) (B:=(Unit) ⊕ (Int)) (fun self1 x0=> bif decide (x0<(a0.2.2.2.2.2.2.2.2.2.2.2.2.2.2.length:Int)) then bnd a0.2.2.2.2.2.2.2.2.2.2.2.2.2.2.length x0 fun n2=> a0.2.2.2.2.2.2.2.2.2.2.2.2.2.2[n2]?.bind fun y3=> bif decide (y3.1=a1) then some (Sum.inr x0) else self1 (IntKind.wrap .i64 (x0+(1:Int))) else some (Sum.inl ())) (0:Int):Option ((Unit) ⊕ (Int))).bind fun y=>match y with | .inl x4=> some ((-1:Int),()) | .inr x4=> some (x4,()):=by kernel_rfl
def sJ:TC:=
 (zS [bf 4] (zQ (zS [xh 6 0 6,xh 8 1 8,Qo 10 7 9] (zC 10 (zS [bf 4] .ret) .skip)) (zQ (.join [] 67106864 (some [⟨4,[.b],false⟩]) (zS [bn 5] (.block 0 (.loop [⟨5,[.i .i64],false⟩] 67106864 (zQ (zS [F8 11 5 0] (zC 14 .skip (.exit 0))) (zQ (.block 1 (zS [bM 17 0 5,bM 21 1 5,Qu 19 17 18 2 2,Qu 23 21 22 2 2,zEg 25 20 24] (zC 25 (zS [bf 4] .ret) .skip))) (zR [eu 15 5 5]))))))) (zS [fI 4] .ret))))
def De:aI:=⟨[.rd false ny,.rd false ny],(.one false [.d])⟩
def sK:aJ:=aA []
def sM (n:Nat):(List aV) × (List aV)->Option ((Bool) × Unit):=aB n sK sJ [[.sl [.i .i64,.i .i64]],[.sl [.i .i64,.i .i64]]] [.b] [] [4] .no
def mP:=sM BIG
def sN:TSp:=⟨De,[[.sl [.i .i64,.i .i64]],[.sl [.i .i64,.i .i64]]],[.b],[],Ou.j .no,mP⟩
theorem UC:aL PG sK 202 De (sJ.ht 26) .no=some (sJ.wc sK,[4]):=by kernel_rfl
theorem A9:sN.Ok PG 202:=aM (ak PG) UC (by kernel_rfl)
theorem UD (n) (a0) (a1):sM n (a0,a1) = bif !decide ((a0.length:Int)=(a1.length:Int)) then some (false,()) else (aO n (X:=Int) (B:=(Unit) ⊕ (Bool)) (fun self1 x0=> bif decide (x0<(a0.length:Int)) then bnd a0.length x0 fun n2=> a0[n2]?.bind fun y3=> bnd a1.length x0 fun n4=> a1[n4]?.bind fun y5=> bif !(decide (y3.1=y5.1)&&(decide (y3.2=y5.2)&&true)) then some (Sum.inr false) else self1 (IntKind.wrap .i64 (x0+(1:Int))) else some (Sum.inl ())) (0:Int):Option ((Unit) ⊕ (Bool))).bind fun y=>match y with | .inl x6=> some (true,()) | .inr x6=> some (x6,()):=by kernel_rfl
def sO:TC:=
 (zS [dG 2 0,kN 3 1] (zQ (.join [⟨4,[.b],false⟩] 2147483632 none (zR [iY 5 2 0 5,iY 7 3 0 7,yX 9 6 8,AO 10 9 5 2 1 5,AA 13 5 3 1 5,Qp 15 12 14 5,ic 10 15 16,Mx 18 12 2 3 3 3,Qp 22 19 21 12,ic 17 22 23,Mx 25 19 2 2 3 2,qP 202 26 28 29 29 19,mM 24 29 30 4])) .ret))
def Df:aI:=⟨[.rd true Aw,.rd true Aw],(.one false [.d])⟩
def sP:aJ:=aA [(202,sN)]
def mQ (n:Nat):kP × kP->Option ((Bool) × Unit):=aB n sP sO [dP,dP] [.b] [] [4] .no
def iM:=mQ BIG
def sQ:TSp:=⟨Df,[dP,dP],[.b],[],Ou.j .no,iM⟩
theorem UE:aL PG sP 170 Df (sO.ht 31) .no=some (sO.wc sP,[4]):=by kernel_rfl
theorem A_:sQ.Ok PG 170:=aM (ae A9 (ak PG)) UE (by kernel_rfl)
theorem Dg (n) (a0) (a1):mQ n (a0,a1) = (bif decide (a0.1=a1.1) then bif decide (a0.2.1=a1.2.1) then bif decide (a0.2.2.2=a1.2.2.2) then (mP (a0.2.2.1,a1.2.2.1)).bind fun r0=> some r0.1 else some false else some false else some false:Option (Bool)).bind fun x1=> some (x1,()):=by kernel_rfl
def sU:TC:=
 (zS [kN 1 0] (zQ (.join [⟨2,[.b],false⟩] 262140 none (zR [iX 3,Yw 4 1 0 3 4,[o1 5 (.build gy [])],zEi 6 4 5,af 7 6,jJ 8 4,lN 9 1 4 8 4,Qq 10 9 4,ic 7 10 11,jJ 13 9,Qr 14 1 5 13 4 9,[o2 15 (.build dP []) 9 true],qP 170 14 15 16 16 9,mM 12 16 17 2])) .ret))
def Di:aI:=⟨[.rd true [.d,.d,.d,.d,.d,.d,.d,.sl (.own none) [.d,.d],.d]],(.one false [.d])⟩
def sV:aJ:=aA [(170,sQ)]
def sW (n:Nat):(Int × Int × Int × Int × Int × Int × Int × List aV × Int)->Option ((Bool) × Unit):=aB n sV sU [Ty8] [.b] [] [2] .no
def sZ:=sW BIG
def Dj:TSp:=⟨Di,[Ty8],[.b],[],Ou.j .no,sZ⟩
theorem UF:aL PG sV 191 Di (sU.ht 18) .no=some (sU.wc sV,[2]):=by kernel_rfl
theorem Si:Dj.Ok PG 191:=aM (ae A_ (ak PG)) UF (by kernel_rfl)
theorem UG (n) (a0):sW n a0 = (bif (decide (a0.1=(0:Int))&&(decide (a0.2.1=(0:Int))&&(decide (a0.2.2.1=(0:Int))&&(decide (a0.2.2.2.1=(0:Int))&&true)))) then bif decide (a0.2.2.2.2.1=(0:Int)) then (iM (a0.2.2.2.2.2,((0:Int),(0:Int),[],(0:Int)))).bind fun r0=> some r0.1 else some false else some false:Option (Bool)).bind fun x1=> some (x1,()):=by kernel_rfl
def Ic:TC:=
 (zS [kN 3 1] (zQ (.seq (.join [⟨26,[.b],false⟩] 134217696 none (zR [af 5 0,uI 6 42 5 12,h_ 7 6,af 8 7,rX 9 3,Az 10 3 0 9 3,CY 42 10 1 100000 11 11 3,kM 12 11 3 8,oD 15 9 3 1 9,CY 42 16 1 4 17 17 9,kM 18 17 9 14,dH 21 0 15,pu 22 15 3 2,yY 139 21 23 24 24 15,uK 25 24 15 20])) (zC 26 (zS [bf 4] .ret) .skip)) (zQ (zS [bP 27 3 1] (.block 0 (zS [C_ 30 28 3] (zC 29 (zQ (.join [⟨4,[.b],false⟩] 4395899027472 none (zR [MB 31 3 2,pg 34 33 0,AO 35 34 4 3 3 4,fq 38 0 4,zLc 39 38 4 42 37 4,mM 35 40 41 4])) .ret) (zS [jq 43 28 4 42] (zC 42 (zQ (.join [⟨4,[.b],false⟩] 8989607068696592 none (zR [MB 44 3 2,w_ 47 46 0,AO 48 47 4 3 3 4,Qq 51 50 4,mM 48 51 52 4])) .ret) .skip)))))) (zQ (.join [⟨4,[.b],false⟩] 4602678819172646928 none (zR [MB 53 3 2,pg 56 55 1,AO 57 56 4 3 3 4,Qq 60 59 4,mM 57 60 61 4])) .ret))))
def UH:aI:=⟨[.rd false [.d],.rd true Aw],(.one false [.d])⟩
def Ie:aJ:=aA [(42,dz),(139,pz)]
def Ig (n:Nat):Int × kP->Option ((Bool) × Unit):=aB n Ie Ic [[.i .i64],dP] [.b] [] [4] .no
def tq:=Ig BIG
def zw:TSp:=⟨UH,[[.i .i64],dP],[.b],[],Ou.j .no,tq⟩
theorem ag2:aL PG Ie 119 UH (Ic.ht 62) .no=some (Ic.wc Ie,[4]):=by kernel_rfl
theorem Em:zw.Ok PG 119:=aM (ae cB (ae sG (ak PG))) ag2 (by kernel_rfl)
theorem ag3 (n) (a0) (a1):Ig n (a0,a1) = ((a_ (a0,(1:Int),(12:Int))).bind fun r0=> bif !r0.1 then some true else (a_ (a1.1,(1:Int),(100000:Int))).bind fun r1=> bif !r1.1 then some true else (a_ (a1.2.1,(1:Int),(4:Int))).bind fun r2=> bif !r2.1 then some true else (l5 (a0,a1.2.2.1)).bind fun r3=> some !r3.1:Option (Bool)).bind fun x4=> bif x4 then some (false,()) else bif decide (a1.2.1=(3:Int)) then (bif decide ((a1.2.2.1.length:Int)=(0:Int)) then (a_ (a1.2.2.2,(0:Int),IntKind.wrap .i64 (a0-(1:Int)))).bind fun r5=> some r5.1 else some false:Option (Bool)).bind fun x6=> some (x6,()) else bif decide (a1.2.1=(4:Int)) then (bif decide ((0:Int)<(a1.2.2.1.length:Int)) then some (decide (a1.2.2.2=(0:Int))) else some false:Option (Bool)).bind fun x7=> some (x7,()) else (bif decide ((a1.2.2.1.length:Int)=(1:Int)) then some (decide (a1.2.2.2=(0:Int))) else some false:Option (Bool)).bind fun x8=> some (x8,()):=by kernel_rfl
def En:TC:=
 (zS [dG 2 0,kN 3 1] (zQ (.seq (.join [⟨17,[.b],false⟩] 262112 none (zR [iY 5 3 1 5,uI 7 42 6 4,h_ 8 7,af 9 8,oD 10 4 3 2 4,oD 12 4 2 0 4,zEn 14 13 4,zEo 11 14 15 15 4,uK 16 15 4 9])) (zC 17 (zS [bf 4] .ret) .skip)) (zQ (zS [bP 18 3 1] (.block 0 (zS [C_ 21 19 4] (zC 20 (zS [bP 22 3 3,MB 24 2 3,[o3 27 42 [.t 23,kO 1,.t 26]],af 4 27] .ret) (zS [jq 29 19 3 28] (zC 28 (zS [Gc 30 3 3 2 0,F6 34 33,Yx 35 42 31 34,af 4 35] .ret) .skip)))))) (zQ (.join [⟨4,[.b],false⟩] 562881233944592 none (zR [Gc 36 3 3 2 0,F6 40 39,Yx 41 42 37 40,AO 42 41 6 3 2 6,AA 45 6 3 3 6,zEq 47 44 46 6,mM 42 47 48 4])) .ret))))
def QN:aI:=⟨[.rd true KP,.rd true [.d,.d,.d,.d]],(.one false [.d])⟩
def Eo:aJ:=aA [(42,dz)]
def Ep (n:Nat):jY × r_->Option ((Bool) × Unit):=aB n Eo En [dO,gy] [.b] [] [4] .no
def wH:=Ep BIG
def Er:TSp:=⟨QN,[dO,gy],[.b],[],Ou.j .no,wH⟩
theorem adB:aL PG Eo 54 QN (En.ht 49) .no=some (En.wc Eo,[4]):=by kernel_rfl
theorem MV:Er.Ok PG 54:=aM (ae cB (ak PG)) adB (by kernel_rfl)
theorem adC (n) (a0) (a1):Ep n (a0,a1) = ((a_ (a1.2.1,(1:Int),(4:Int))).bind fun r0=> bif !r0.1 then some true else (a_ (a1.2.2.1,(0:Int),IntKind.wrap .i64 (a0.1-(1:Int)))).bind fun r1=> some !r1.1:Option (Bool)).bind fun x2=> bif x2 then some (false,()) else bif decide (a1.2.1=(4:Int)) then (a_ (a1.2.2.2,(1:Int),(a0.2.2.2.1.length:Int))).bind fun r3=> some (r3.1,()) else bif decide (a1.2.1=(3:Int)) then (a_ (a1.2.2.2,(0:Int),IntKind.wrap .i64 (a0.1-(1:Int)))).bind fun r4=> some (r4.1,()) else ((a_ (a1.2.2.2,(0:Int),IntKind.wrap .i64 (a0.1-(1:Int)))).bind fun r5=> bif r5.1 then some (!decide (a1.2.2.1=a1.2.2.2)) else some false:Option (Bool)).bind fun x6=> some (x6,()):=by kernel_rfl
def Ba:TC:=
 (zS [kN 1 0] (zS [iX 4,Yw 5 1 5 4 9,zEr 3 1000000004,gN 3 3 5] (zQ (zS [dY 6 3 9,ib 7 191 6] (zC 7 (zS [fI 2] .ret) .skip)) (zQ (.join [⟨2,[.b],false⟩] 2305843009213693700 none (zR [iY 8 3 4 8,MB 10 1 3,[o3 13 42 [.t 9,kO 1,.t 12]],AO 14 13 6 1 0 6,jJ 17 6,Qr 18 3 5 17 4 6,qP 119 16 18 19 19 6,ic 14 19 20,jJ 22 13,xg 23 22 13,lN 24 3 5 23 13,Mx 25 13 1 4 3 4,zDr 29 28 13,CZ 30 26 29 13,Uh 31 26 1 30 13,zEu 32 31 1 13,Qp 33 24 32 13,ic 21 33 34,zEv 36 1 15 27,jJ 37 27,xg 38 37 27,lN 39 3 0 38 27,qP 53 36 39 40 40 27,zAi 41 40 0 27,ic 35 41 42,zEv 44 1 15 35,jJ 45 35,Qr 46 3 0 45 4 35,qP 54 44 46 47 47 35,ic 43 47 48,jJ 50 41,xg 51 50 41,lN 52 3 1 51 41,[o2 53 (.data (.bin .neq) [.t 52,kD 3]) 41 true],ic 49 53 54,jJ 56 47,xg 57 56 47,lN 58 3 0 57 47,zEw 42 58 1 59 59 47,mM 55 59 60 2])) .ret))))
def MW:aI:=⟨[.rd true KP],(.one false [.d])⟩
def Bb:aJ:=aA [(191,Dj),(42,dz),(119,zw),(53,zu),(54,Er)]
def Bc (n:Nat):jY->Option ((Bool) × Unit):=aB n Bb Ba [dO] [.b] [] [2] .no
def Bd:=Bc BIG
def MX:TSp:=⟨MW,[dO],[.b],[],Ou.j .no,Bd⟩
theorem abQ:aL PG Bb 141 MW (Ba.ht 61) .no=some (Ba.wc Bb,[2]):=by kernel_rfl
theorem Zl:MX.Ok PG 141:=aM (ae Si (ae cB (ae Em (ae El (ae MV (ak PG)))))) abQ (by kernel_rfl)
theorem abR (n) (a0):Bc n a0 = (sZ (a0.2.2.2.2.2.1,a0.2.2.2.2.2.2.1,a0.2.2.2.2.2.2.2.1,a0.2.2.2.2.2.2.2.2.1,a0.2.2.2.2.2.2.2.2.2.1,a0.2.2.2.2.2.2.2.2.2.2.1,a0.2.2.2.2.2.2.2.2.2.2.2.1,a0.2.2.2.2.2.2.2.2.2.2.2.2.1,a0.2.2.2.2.2.2.2.2.2.2.2.2.2.1)).bind fun r0=> bif r0.1 then some (true,()) else ((a_ (a0.2.2.2.2.2.2.2.2.2.1,(1:Int),(a0.2.2.2.1.length:Int))).bind fun r1=> bif r1.1 then (tq (a0.1,(a0.2.2.2.2.2.2.2.2.2.2.1,a0.2.2.2.2.2.2.2.2.2.2.2.1,a0.2.2.2.2.2.2.2.2.2.2.2.2.1,a0.2.2.2.2.2.2.2.2.2.2.2.2.2.1))).bind fun r2=> bif r2.1 then bnd a0.2.2.2.2.1.length (IntKind.wrap .i64 (a0.2.2.2.2.2.2.2.2.2.1-(1:Int))) fun n3=> a0.2.2.2.2.1[n3]?.bind fun y4=> bif decide (a0.2.2.2.2.2.2.2.2.2.2.1=(IntKind.wrap .i64 (y4+(1:Int)))) then (sI (a0,a0.2.2.2.2.2.1)).bind fun r5=> bif decide (r5.1<(0:Int)) then (wH (a0,(a0.2.2.2.2.2.1,a0.2.2.2.2.2.2.1,a0.2.2.2.2.2.2.2.1,a0.2.2.2.2.2.2.2.2.1))).bind fun r6=> bif r6.1 then bif !decide (a0.2.2.2.2.2.2.1=(3:Int)) then (a_ (a0.2.2.2.2.2.1,(1:Int),(100000:Int))).bind fun r7=> some r7.1 else some false else some false else some false else some false else some false else some false:Option (Bool)).bind fun x8=> some (x8,()):=by kernel_rfl
def MZ:TC:=
 (zS [kN 1 0] (zQ (.seq (.join [⟨49,[.b],false⟩] 1125899906842368 none (zR [iY 8 1 0 8,uI 10 42 9 12,oF 11 10,oD 13 4 1 3 4,Ui 15 14 4,CY 42 15 1 3 16 16 4,kM 17 16 4 12,pu 20 11 1 4,Ui 22 21 11,pu 23 11 1 3,Ui 25 24 11,F9 26 22 25 11 19,af 28 27,pu 29 20 1 1,Ui 31 30 20,pu 32 20 1 0,F9 34 31 33 20 28,af 36 35,pu 37 28 1 0,pu 39 28 1 2,yY 139 38 40 41 41 28,kM 42 41 28 36,pu 45 36 1 14,Ui 47 46 36,Uf 48 47 80 36,uJ 44 48 49])) (zC 49 (zS [bf 2] .ret) .skip)) (zQ (.join [] 37778930737057254866956 (some [⟨2,[.b],false⟩]) (zS [bn 3] (.block 0 (.loop [⟨3,[.i .i64],false⟩] 37778930737057254866956 (zQ (zS [Uo 50 3 1 3 53] (zC 54 .skip (.exit 0))) (zQ (.join [] 37778787747769085853700 (some [⟨2,[.b],false⟩]) (.block 1 (zQ (.join [⟨74,[.b],false⟩] 37778787747769085853696 none (zR [af 61 3,Gc 57 1 0 1 3,mJ 62 60 61 1,kZ 64 140 58 63,oF 65 64,oD 67 9 1 4 9,dH 69 3 9,Ug 70 68 69 9,zEc 71 68 1 70 9,CY 42 71 0 99991 72 72 9,uK 73 72 9 66])) (zC 74 (zS [bf 2] .ret) .skip)))) (zR [eu 55 3 3]))))))) (zQ (.join [] 2475842299638897592636538900 (some [⟨2,[.b],false⟩]) (zS [bn 4] (.block 2 (.loop [⟨4,[.i .i64],false⟩] 2475842299638897592636538900 (zQ (zS [QA 75 4 1 0,kY 78 75 77] (zC 78 .skip (.exit 2))) (zQ (.block 3 (zS [af 83 4,bP 81 1 1,mJ 84 82 83 1,MB 86 1 3,[o3 89 42 [.t 85,kO 1,.t 88]],h_ 90 89] (zC 90 (zS [bf 2] .ret) .skip))) (zR [eu 79 4 4]))))))) (zQ (.join [] 664613995416577857881142980341923876 (some [⟨2,[.b],false⟩]) (zS [bn 5] (.block 4 (.loop [⟨5,[.i .i64],false⟩] 664613995416577857881142980341923876 (zQ (zS [Uo 91 5 1 2 94] (zC 95 .skip (.exit 4))) (zQ (.block 5 (zS [af 102 5,af 112 5,Gc 98 1 1 1 2,Un 103 101 102 2,mJ 106 99 105 1,Gc 108 1 1 1 2,zKB 113 111 112 2 1,mJ 116 109 115 1,yX 118 107 117] (zC 118 (zS [bf 2] .ret) .skip))) (zR [eu 96 5 5]))))))) (zQ (.join [] 2854495384747305764224114002447086742625321156 (some [⟨2,[.b],false⟩]) (zS [bn 6] (.block 6 (.loop [⟨6,[.i .i64],false⟩] 2854495384747305764224114002447086742625321156 (zQ (zS [Uo 119 6 1 14 122] (zC 123 .skip (.exit 6))) (zQ (.join [] 2854495300341328031881956073055338414823440516 (some [⟨2,[.b],false⟩]) (.block 7 (zS [bP 126 1 14,Uq 128 6 127 6 6,[o5 (.a (.c R9 [kV 0,kV 0,kV 0,kV 0,kV 0,kV 0])) 7 1000000008],gN 7 7 130] (zQ (.join [⟨150,[.b],false⟩] 2854492663152984394608864231902130818619801600 none (zR [bP 131 7 0,yZ 133,qN 135 7 1 134,Qo 136 132 135,af 137 136,oD 138 6 7 5 6,CY 42 139 1 3 140 140 6,kM 141 140 6 137,KR 144 1 15 12,pu 145 12 7 0,yY 53 144 146 147 147 12,dH 148 6 12,F9 149 147 148 12 143])) (zC 150 (zS [bf 2] .ret) .skip))))) (zR [eu 124 6 6]))))))) (zS [QB 151 1 15 141,af 2 152] .ret)))))))
def YG:aI:=⟨[.rd true KP],(.one false [.d])⟩
def M0:aJ:=aA [(42,dz),(139,pz),(140,A8),(53,zu),(141,MX)]
def M3 (n:Nat):jY->Option ((Bool) × Unit):=aB n M0 MZ [dO] [.b] [] [2] .no
def Dk:=M3 BIG
def M4:TSp:=⟨YG,[dO],[.b],[],Ou.j .no,Dk⟩
theorem ajX:aL PG M0 52 YG (MZ.ht 153) .no=some (MZ.wc M0,[2]):=by kernel_rfl
theorem UI:M4.Ok PG 52:=aM (ae cB (ae sG (ae K5 (ae El (ae Zl (ak PG)))))) ajX (by kernel_rfl)
theorem ajY (n) (a0):M3 n a0 =
 ((a_ (a0.1,(1:Int),(12:Int))).bind fun r0=>
  bif !r0.1 then
   some true
  else (a_ ((a0.2.2.2.1.length:Int),(1:Int),(3:Int))).bind fun r1=>
  bif !r1.1 then
   some true
  else bif !decide ((a0.2.2.2.2.1.length:Int)=(a0.2.2.2.1.length:Int)) then
   some true
  else bif !decide ((a0.2.1.length:Int)=a0.1) then
   some true
  else (l5 (a0.1,a0.2.2.1)).bind fun r2=>
  bif !r2.1 then
   some true
  else some (decide ((80:Int)<(a0.2.2.2.2.2.2.2.2.2.2.2.2.2.2.length:Int))):Option (Bool)).bind fun x3=>
 bif x3 then
  some (false,())
 else (aO n (X:=Int) (B:=(Unit) ⊕ (Bool)) (fun self5 x4=>
  bif decide (x4<(a0.2.2.2.1.length:Int)) then
   ((bnd a0.2.2.2.1.length x4 fun n6=>
    a0.2.2.2.1[n6]?.bind fun y7=>
    (sH (a0.1,y7)).bind fun r8=>
    bif !r8.1 then
     some true
    else bnd a0.2.2.2.2.1.length x4 fun n9=>
    a0.2.2.2.2.1[n9]?.bind fun y10=>
    (a_ (y10,(0:Int),(99991:Int))).bind fun r11=>
    some !r11.1:Option (Bool)).bind fun x12=>
    bif x12 then
     some (Sum.inr false)
    else some (Sum.inl ()):Option ((Unit) ⊕ (Bool))).bind fun y=>match y with
   | .inl x13=>
    self5 (IntKind.wrap .i64 (x4+(1:Int)))
   | .inr x13=>
    some (Sum.inr x13)
  else some (Sum.inl ())) (0:Int):Option ((Unit) ⊕ (Bool))).bind fun y=>match y with
 | .inl x14=>
  (aO n (X:=Int) (B:=(Unit) ⊕ (Bool)) (fun self16 x15=>
   bif decide (x15<a0.1) then
    bnd a0.2.1.length x15 fun n17=>
    a0.2.1[n17]?.bind fun y18=>
    (a_ (y18,(1:Int),(a0.2.2.2.1.length:Int))).bind fun r19=>
    bif !r19.1 then
     some (Sum.inr false)
    else self16 (IntKind.wrap .i64 (x15+(1:Int)))
   else some (Sum.inl ())) (0:Int):Option ((Unit) ⊕ (Bool))).bind fun y=>match y with
  | .inl x20=>
   (aO n (X:=Int) (B:=(Unit) ⊕ (Bool)) (fun self22 x21=>
    bif decide (x21<(a0.2.2.1.length:Int)) then
     bnd a0.2.2.1.length x21 fun n23=>
     a0.2.2.1[n23]?.bind fun y24=>
     bnd a0.2.1.length y24.1 fun n25=>
     a0.2.1[n25]?.bind fun y26=>
     bnd a0.2.2.1.length x21 fun n27=>
     a0.2.2.1[n27]?.bind fun y28=>
     bnd a0.2.1.length y28.2 fun n29=>
     a0.2.1[n29]?.bind fun y30=>
     bif decide (y26=y30) then
      some (Sum.inr false)
     else self22 (IntKind.wrap .i64 (x21+(1:Int)))
    else some (Sum.inl ())) (0:Int):Option ((Unit) ⊕ (Bool))).bind fun y=>match y with
   | .inl x31=>
    (aO n (X:=Int) (B:=(Unit) ⊕ (Bool)) (fun self33 x32=>
     bif decide (x32<(a0.2.2.2.2.2.2.2.2.2.2.2.2.2.2.length:Int)) then
      (bnd a0.2.2.2.2.2.2.2.2.2.2.2.2.2.2.length x32 fun n34=>
       a0.2.2.2.2.2.2.2.2.2.2.2.2.2.2[n34]?.bind fun y35=>
       (bif !decide (y35.1=y35.2.1) then
        some true
        else (a_ (y35.2.2.2.2.2,(1:Int),(3:Int))).bind fun r36=>
        bif !r36.1 then
         some true
        else (sI (a0,y35.1)).bind fun r37=>
        some (!decide (r37.1=x32)):Option (Bool)).bind fun x38=>
       bif x38 then
        some (Sum.inr false)
       else some (Sum.inl ()):Option ((Unit) ⊕ (Bool))).bind fun y=>match y with
      | .inl x39=>
       self33 (IntKind.wrap .i64 (x32+(1:Int)))
      | .inr x39=>
       some (Sum.inr x39)
     else some (Sum.inl ())) (0:Int):Option ((Unit) ⊕ (Bool))).bind fun y=>match y with
    | .inl x40=>
     (Bd a0).bind fun r41=>
     some (r41.1,())
    | .inr x40=>
     some (x40,())
   | .inr x31=>
    some (x31,())
  | .inr x20=>
   some (x20,())
 | .inr x14=>
  some (x14,()):=by kernel_rfl
def M5:TC:=
 (zS [dG 4 1] (zS [bH 6,bH 7,af 14 2,qM 8 7,yU 9 8,zBt 10 0 14 9,bP 11 4 0,dY 13 4 4,zEz,[o1 16 (.sli R9 [.t 15])],Mq 10 10 16 17 10 10 0 17,nz 18 6,F5 0 17 10 0 14 19 17] (zR [bH 20,[o1 21 (.build Ty8 [])],nz 22 20,Qm 0 21 0 5 23 21])))
def YH:aI:=⟨[.mp KP,.rd true [.d,.d,.d,.d],.rd false [.d]],.u⟩
def M6:aJ:=aA []
def M7 (n:Nat):jY × r_ × Int->Option ((Unit) × Int × List Int × List aV × List (List Int) × List Int × Int × Int × Int × Int × Int × Int × Int × List aV × Int × List R_):=aB n M6 M5 [dO,gy,[.i .i64]] [] dO [] (.mp 0)
def lg:=M7 BIG
def Dl:TSp:=⟨YH,[dO,gy,[.i .i64]],[],dO,Ou.j (.mp 0),lg⟩
theorem ajZ:aL PG M6 55 YH (M5.ht 24) (.mp 0)=some (M5.wc M6,[]):=by kernel_rfl
theorem Ih:Dl.Ok PG 55:=aM (ak PG) ajZ (by kernel_rfl)
theorem aj0 (n) (a0) (a1) (a2):M7 n (a0,a1,a2) = bif decide (a0.2.2.2.2.2.2.2.2.2.2.2.2.2.2.length+([(a1.1,a1.1,a1.2.1,a1.2.2.1,a1.2.2.2,a2)]).length<=4294967296) then some ((),(a0.1,a0.2.1,a0.2.2.1,a0.2.2.2.1,a0.2.2.2.2.1,(0:Int),(0:Int),(0:Int),(0:Int),(0:Int),(0:Int),(0:Int),[],(0:Int),a0.2.2.2.2.2.2.2.2.2.2.2.2.2.2++([(a1.1,a1.1,a1.2.1,a1.2.2.1,a1.2.2.2,a2)]))) else none:=by kernel_rfl
def vz:TC:=
 (zS [zBb 6,bf 7] (zS [Qk 12,bK 12 8 12] (zQ (.seq (.join [⟨25,[.b],false⟩] 67100672 none (zR [af 13 0,uI 14 42 13 12,oF 15 14,dH 17 1 3,Ui 18 17 3,Uf 19 18 3 3,uJ 16 19 20,y_ 21 20 2 8,Ui 23 22 8,Uf 24 23 1000 8,uJ 21 24 25])) (zC 25 (zS [xe 26,bK 26 6 26,bf 7] .ret) .skip)) (zQ (.join [⟨8,[.sl [.i .i64,.i .i64]],false⟩] 302231454903657159460800 (some [⟨6,[.sl [.i .i64]],false⟩,⟨7,[.b],false⟩]) (zS [bn 9] (.block 0 (.loop [⟨8,[.sl [.i .i64,.i .i64]],false⟩,⟨9,[.i .i64],false⟩] 302231454903657159460800 (zQ (zS [F8 27 9 1] (zC 30 .skip (.exit 0))) (zQ (.join [⟨8,[.sl [.i .i64,.i .i64]],false⟩] 302231454903648703743424 (some [⟨6,[.sl [.i .i64]],false⟩,⟨7,[.b],false⟩]) (.block 1 (zQ (zS [Qx 33 1 9 1,kX 37 36,af 38 0,Qo 39 37 38] (zC 39 (zS [xe 40,bK 40 6 40,bf 7] .ret) .skip)) (zS [bn 10] (.block 2 (.loop [⟨8,[.sl [.i .i64,.i .i64]],false⟩,⟨10,[.i .i64],false⟩] 302231454901458270422464 (zQ (zS [C9 41 10 0] (zC 43 .skip (.exit 2))) (zQ (.join [⟨8,[.sl [.i .i64,.i .i64]],false⟩] 302231454833288549499328 (some [⟨6,[.sl [.i .i64]],false⟩,⟨7,[.b],false⟩]) (.block 3 (zQ (zS [Qx 46 1 9 1,af 50 10,mJ 51 49 50 1,af 53 10,Yx 54 42 52 53,h_ 55 54] (zC 55 (zS [xe 56,bK 56 6 56,bf 7] .ret) .skip)) (zS [Qx 57 1 9 1,af 61 10,mJ 62 60 61 1,af 64 10,kY 65 63 64] (zC 65 (zR [bK 8 66 8,Qx 67 1 9 1,af 71 10,mJ 72 70 71 1,af 74 10,Mr 75 73 74,QC 76 75 66 66 8]) .skip))))) (zR [Mw 44 10]))))))))) (zR [eu 31 9 9]))))))) (zQ (.join [⟨8,[.sl [.i .i64,.i .i64]],false⟩] 633824997882659797091057928640 (some [⟨6,[.sl [.i .i64]],false⟩,⟨7,[.b],false⟩]) (zS [bn 11] (.block 4 (.loop [⟨8,[.sl [.i .i64,.i .i64]],false⟩,⟨11,[.i .i64],false⟩] 633824997882659797091057928640 (zQ (zS [F8 78 11 2] (zC 81 .skip (.exit 4))) (zQ (.block 5 (zQ (zS [bM 84 0 2,Uq 86 11 85 2 2,kZ 89 128 84 88,h_ 90 89] (zC 90 (zS [xe 91,bK 91 6 91,bf 7] .ret) .skip)) (zR [bK 8 92 8,Qz 93 2 11 2 2,QC 97 96 92 92 8]))) (zR [Mw 82 11]))))))) (zS [af 99 0,bK 8 100 8,Qv 101 142 99 100 6,fI 7] .ret))))))
def Gd:aI:=⟨[.rd false [.d],.rd false [.sl (.own none) gK],.rd false ny],(.tup [(false,1),(false,1)] Ct9)⟩
def vC:aJ:=aA [(42,dz),(128,xq),(142,si)]
def vD (n:Nat):Int × List (List Int) × (List aV)->Option ((List Int × Bool) × Unit):=aB n vC vz [[.i .i64],[.sl [.sl [.i .i64]]],[.sl [.i .i64,.i .i64]]] [.sl [.i .i64],.b] [] [6,7] .no
def vE:=vD BIG
def Gf:TSp:=⟨Gd,[[.i .i64],[.sl [.sl [.i .i64]]],[.sl [.i .i64,.i .i64]]],[.sl [.i .i64],.b],[],Ou.j .no,vE⟩
theorem Xc:aL PG vC 56 Gd (vz.ht 102) .no=some (vz.wc vC,[6,7]):=by kernel_rfl
theorem UJ:Gf.Ok PG 56:=aM (ae cB (ae zt (ae xM (ak PG)))) Xc (by kernel_rfl)
theorem Xd (n) (a0) (a1) (a2):vD n (a0,a1,a2) =
 ((a_ (a0,(1:Int),(12:Int))).bind fun r0=>
  bif !r0.1 then
   some true
  else bif decide ((3:Int)<(a1.length:Int)) then
   some true
  else some (decide ((1000:Int)<(a2.length:Int))):Option (Bool)).bind fun x1=>
 bif x1 then
  some (([],false),())
 else (aO n (X:=(List aV) × Int) (B:=((List aV)) ⊕ ((List Int) × Bool)) (fun self3 x2=>
  bif decide (x2.2<(a1.length:Int)) then
   (bnd a1.length x2.2 fun n4=>
    a1[n4]?.bind fun y5=>
    bif !decide ((y5.length:Int)=a0) then
     some (Sum.inr ([],false))
    else aO n (X:=(List aV) × Int) (B:=((List aV)) ⊕ ((List Int) × Bool)) (fun self7 x6=>
     bif decide (x6.2<a0) then
      (bnd a1.length x2.2 fun n8=>
       a1[n8]?.bind fun y9=>
       bnd y9.length x6.2 fun n10=>
       y9[n10]?.bind fun y11=>
       (a_ (y11,(0:Int),x6.2)).bind fun r12=>
       bif !r12.1 then
        some (Sum.inr ([],false))
       else bnd a1.length x2.2 fun n13=>
       a1[n13]?.bind fun y14=>
       bnd y14.length x6.2 fun n15=>
       y14[n15]?.bind fun y16=>
       bif decide (y16<x6.2) then
        bnd a1.length x2.2 fun n17=>
        a1[n17]?.bind fun y18=>
        bnd y18.length x6.2 fun n19=>
        y18[n19]?.bind fun y20=>
        bif decide (x6.1.length+([(y20,x6.2)]).length<=4294967296) then
         some (Sum.inl (x6.1++([(y20,x6.2)])))
        else none
       else some (Sum.inl x6.1):Option (((List aV)) ⊕ ((List Int) × Bool))).bind fun y=>match y with
      | .inl x21=>
       self7 (x21,IntKind.wrap .i64 (x6.2+(1:Int)))
      | .inr x21=>
       some (Sum.inr (x21.1,x21.2))
     else some (Sum.inl x6.1)) (x2.1,(0:Int)):Option (((List aV)) ⊕ ((List Int) × Bool))).bind fun y=>match y with
   | .inl x22=>
    self3 (x22,IntKind.wrap .i64 (x2.2+(1:Int)))
   | .inr x22=>
    some (Sum.inr (x22.1,x22.2))
  else some (Sum.inl x2.1)) ([],(0:Int)):Option (((List aV)) ⊕ ((List Int) × Bool))).bind fun y=>match y with
 | .inl x23=>
  (aO n (X:=(List aV) × Int) (B:=((List aV)) ⊕ ((List Int) × Bool)) (fun self25 x24=>
   bif decide (x24.2<(a2.length:Int)) then
    bnd a2.length x24.2 fun n26=>
    a2[n26]?.bind fun y27=>
    (qR (a0,y27)).bind fun r28=>
    bif !r28.1 then
     some (Sum.inr ([],false))
    else bnd a2.length x24.2 fun n29=>
    a2[n29]?.bind fun y30=>
    bif decide (x24.1.length+[y30].length<=4294967296) then
     self25 (x24.1++[y30],IntKind.wrap .i64 (x24.2+(1:Int)))
    else none
   else some (Sum.inl x24.1)) (x23,(0:Int)):Option (((List aV)) ⊕ ((List Int) × Bool))).bind fun y=>match y with
  | .inl x31=>
   (nA (a0,x31)).bind fun r32=>
   some ((r32.1,true),())
  | .inr x31=>
   some (x31,())
 | .inr x23=>
  some (x23,()):=by kernel_rfl
def Ii:TC:=
 (zS [dG 5 1,[o5 (.a (.t 3)) 7 3],bn 8] (zS [bH 9,QD 10 9 0 4,af 13 2,F6 14 13,iW 15 12 14,Uj 16 0 4 1 15,yT 17 16,jX 18 7 7 0 17] (zS [bH 19,dY 20 5 4,Gb 21 2 7 4,zED,nz 24 19,zEE 0 23 12 15 0 5 25 23] (zS [mI 8 2] .ret))))
def UK:aI:=⟨[.mp KP,.rd true [.d,.d,.d,.d],.rd false [.d],.tk true Aw],(.one false [.d])⟩
def Ij:aJ:=aA []
def Ik (n:Nat):jY × r_ × Int × kP->Option ((Int) × Int × List Int × List aV × List (List Int) × List Int × Int × Int × Int × Int × Int × Int × Int × List aV × Int × List R_):=aB n Ij Ii [dO,gy,[.i .i64],dP] [.i .i64] dO [8] (.mp 0)
def zx:=Ik BIG
def Il:TSp:=⟨UK,[dO,gy,[.i .i64],dP],[.i .i64],dO,Ou.j (.mp 0),zx⟩
theorem ag4:aL PG Ij 57 UK (Ii.ht 26) (.mp 0)=some (Ii.wc Ij,[8]):=by kernel_rfl
theorem QO:Il.Ok PG 57:=aM (ak PG) ag4 (by kernel_rfl)
theorem ag5 (n) (a0) (a1) (a2) (a3):Ik n (a0,a1,a2,a3) = bnd a0.2.2.2.2.1.length (IntKind.wrap .i64 (a2-(1:Int))) fun n0=> a0.2.2.2.2.1[n0]?.bind fun y1=> some ((2:Int),(a0.1,a0.2.1,a0.2.2.1,a0.2.2.2.1,a0.2.2.2.2.1,a1.1,a1.2.1,a1.2.2.1,a1.2.2.2,a2,IntKind.wrap .i64 (y1+(1:Int)),a3.2.1,a3.2.2.1,a3.2.2.2,a0.2.2.2.2.2.2.2.2.2.2.2.2.2.2)):=by kernel_rfl
def Im:TC:=
 (zS [dG 1 0,KS 2 1000000003] (zQ (zS [iY 3 1 2 3,iY 5 1 3 5,kY 7 4 6] (zC 7 (zS [iY 8 1 2 8,bP 10 1 3,Mr 12 9 11,gN 2 2 12] .ret) .skip)) (zS [Gc 13 1 3 1 2,Mr 17 14 16,gN 2 2 17] .ret)))
def UL:aI:=⟨[.rd true [.d,.d,.d,.d]],(.one true [.d,.d])⟩
def Io:aJ:=aA []
def Ip (n:Nat):r_->Option (aV × Unit):=aB n Io Im [gy] [.i .i64,.i .i64] [] [2] .no
def Iq:=Ip BIG
def UM:TSp:=⟨UL,[gy],[.i .i64,.i .i64],[],Ou.j .no,Iq⟩
theorem ag6:aL PG Io 45 UL (Im.ht 18) .no=some (Im.wc Io,[2]):=by kernel_rfl
theorem adD:UM.Ok PG 45:=aM (ak PG) ag6 (by kernel_rfl)
theorem ag7 (n) (a0):Ip n a0 = bif decide (a0.2.2.1<a0.2.2.2) then some (a0.2.2,()) else some ((a0.2.2.2,a0.2.2.1),()):=by kernel_rfl
def M8:TC:=
 (zS [kN 3 1] (zQ (.join [] 262128 (some [⟨4,[.b],false⟩]) (zS [bn 5] (.block 0 (.loop [⟨5,[.i .i64],false⟩] 262128 (zQ (zS [bM 6 5 0,kX 8 7,kY 9 6 8] (zC 9 .skip (.exit 0))) (zQ (.block 1 (zS [Qz 12 0 5 2 2,dY 16 3 2,[o1 17 (.eqA [.i,.i] (.t 15) (.t 16) false)]] (zC 17 (zS [fI 4] .ret) .skip))) (zR [eu 10 5 5]))))))) (zS [bf 4] .ret)))
def YI:aI:=⟨[.rd false ny,.rd true [.d,.d]],(.one false [.d])⟩
def M9:aJ:=aA []
def M_ (n:Nat):(List aV) × aV->Option ((Bool) × Unit):=aB n M9 M8 [[.sl [.i .i64,.i .i64]],[.i .i64,.i .i64]] [.b] [] [4] .no
def nC:=M_ BIG
def qU:TSp:=⟨YI,[[.sl [.i .i64,.i .i64]],[.i .i64,.i .i64]],[.b],[],Ou.j .no,nC⟩
theorem aj1:aL PG M9 143 YI (M8.ht 18) .no=some (M8.wc M9,[4]):=by kernel_rfl
theorem tu:qU.Ok PG 143:=aM (ak PG) aj1 (by kernel_rfl)
theorem aj2 (n) (a0) (a1):M_ n (a0,a1) = (aO n (X:=Int) (B:=(Unit) ⊕ (Bool)) (fun self1 x0=> bif decide (x0<(a0.length:Int)) then bnd a0.length x0 fun n2=> a0[n2]?.bind fun y3=> bif (decide (y3.1=a1.1)&&(decide (y3.2=a1.2)&&true)) then some (Sum.inr true) else self1 (IntKind.wrap .i64 (x0+(1:Int))) else some (Sum.inl ())) (0:Int):Option ((Unit) ⊕ (Bool))).bind fun y=>match y with | .inl x4=> some (false,()) | .inr x4=> some (x4,()):=by kernel_rfl
def xQ:TC:=
 (zS [dG 3 1,zGb 4] (zS [Qk 7,bK 7 5 7] (zQ (.join [⟨5,[.sl [.i .i64,.i .i64]],false⟩] 134217568 none (zS [bn 6] (.block 0 (.loop [⟨5,[.sl [.i .i64,.i .i64]],false⟩,⟨6,[.i .i64],false⟩] 134217568 (zQ (zS [bM 8 6 0,rY 10 9 8] (zC 11 .skip (.exit 0))) (zQ (.join [⟨5,[.sl [.i .i64,.i .i64]],false⟩] 134201376 none (.block 1 (zS [Qz 14 0 6 2 2,dY 18 3 2,zEg 19 17 18] (zC 19 (zR [bK 5 20 5,Qz 21 0 6 2 2,QC 25 24 20 20 5]) .skip)))) (zR [eu 12 6 6]))))))) (zS [AB 5 27 5 4] .ret))))
def K6:aI:=⟨[.rd false ny,.rd true [.d,.d]],(.one false ny)⟩
def xR:aJ:=aA []
def xS (n:Nat):(List aV) × aV->Option ((List aV) × Unit):=aB n xR xQ [[.sl [.i .i64,.i .i64]],[.i .i64,.i .i64]] [.sl [.i .i64,.i .i64]] [] [4] .no
def pV:=xS BIG
def xU:TSp:=⟨K6,[[.sl [.i .i64,.i .i64]],[.i .i64,.i .i64]],[.sl [.i .i64,.i .i64]],[],Ou.j .no,pV⟩
theorem Zm:aL PG xR 131 K6 (xQ.ht 28) .no=some (xQ.wc xR,[4]):=by kernel_rfl
theorem Gg:xU.Ok PG 131:=aM (ak PG) Zm (by kernel_rfl)
theorem Zn (n) (a0) (a1):xS n (a0,a1) = (aO n (X:=(List aV) × Int) (B:=(List aV)) (fun self1 x0=> bif decide (x0.2<(a0.length:Int)) then (bnd a0.length x0.2 fun n2=> a0[n2]?.bind fun y3=> bif !(decide (y3.1=a1.1)&&(decide (y3.2=a1.2)&&true)) then bnd a0.length x0.2 fun n4=> a0[n4]?.bind fun y5=> bif decide (x0.1.length+[y5].length<=4294967296) then some (x0.1++[y5]) else none else some x0.1:Option ((List aV))).bind fun x6=> self1 (x6,IntKind.wrap .i64 (x0.2+(1:Int))) else some x0.1) ([],(0:Int)):Option ((List aV))).bind fun x7=> some (x7,()):=by kernel_rfl
def Na:TC:=
 (zS [dG 3 1,zGb 4] (zS [Qk 8,bK 8 5 8] (zQ (.join [⟨5,[.sl [.i .i64,.i .i64]],false⟩] 268435040 none (zS [bn 6] (.block 0 (.loop [⟨5,[.sl [.i .i64,.i .i64]],false⟩,⟨6,[.i .i64],false⟩] 268435040 (zQ (zS [bM 9 6 0,rY 11 10 9] (zC 12 .skip (.exit 0))) (zQ (.join [⟨5,[.sl [.i .i64,.i .i64]],false⟩] 268402720 none (.block 1 (zS [Qz 15 0 6 2 2,Da 19 3 2 187 18] (zC 20 (zR [bK 5 21 5,Qz 22 0 6 2 2,QC 26 25 21 21 5]) .skip)))) (zR [eu 13 6 6]))))))) (zS [bK 5 28 5,dY 29 3 2,QC 30 29 28 28 5] (zQ (.join [⟨5,[.sl [.i .i64,.i .i64]],false⟩] 2251795518718112 none (zS [bn 7] (.block 2 (.loop [⟨5,[.sl [.i .i64,.i .i64]],false⟩,⟨7,[.i .i64],false⟩] 2251795518718112 (zQ (zS [F8 32 7 0] (zC 35 .skip (.exit 2))) (zQ (.join [⟨5,[.sl [.i .i64,.i .i64]],false⟩] 2251524935778336 none (.block 3 (zS [bM 39 0 7,dY 38 3 2,Qu 41 39 40 2 2,kZ 43 187 38 42] (zC 43 (zR [bK 5 44 5,Qz 45 0 7 2 2,QC 49 48 44 44 5]) .skip)))) (zR [eu 36 7 7]))))))) (zS [AB 5 51 5 4] .ret))))))
def YJ:aI:=⟨[.rd false ny,.rd true [.d,.d]],(.one false ny)⟩
def Nc:aJ:=aA [(187,H9)]
def Nf (n:Nat):(List aV) × aV->Option ((List aV) × Unit):=aB n Nc Na [[.sl [.i .i64,.i .i64]],[.i .i64,.i .i64]] [.sl [.i .i64,.i .i64]] [] [4] .no
def nD:=Nf BIG
def qV:TSp:=⟨YJ,[[.sl [.i .i64,.i .i64]],[.i .i64,.i .i64]],[.sl [.i .i64,.i .i64]],[],Ou.j .no,nD⟩
theorem aj3:aL PG Nc 130 YJ (Na.ht 52) .no=some (Na.wc Nc,[4]):=by kernel_rfl
theorem tC:qV.Ok PG 130:=aM (ae QL (ak PG)) aj3 (by kernel_rfl)
theorem aj4 (n) (a0) (a1):Nf n (a0,a1) = (aO n (X:=(List aV) × Int) (B:=(List aV)) (fun self1 x0=> bif decide (x0.2<(a0.length:Int)) then (bnd a0.length x0.2 fun n2=> a0[n2]?.bind fun y3=> (sF (y3,a1)).bind fun r4=> bif r4.1 then bnd a0.length x0.2 fun n5=> a0[n5]?.bind fun y6=> bif decide (x0.1.length+[y6].length<=4294967296) then some (x0.1++[y6]) else none else some x0.1:Option ((List aV))).bind fun x7=> self1 (x7,IntKind.wrap .i64 (x0.2+(1:Int))) else some x0.1) ([],(0:Int)):Option ((List aV))).bind fun x8=> bif decide (x8.length+[a1].length<=4294967296) then (aO n (X:=(List aV) × Int) (B:=(List aV)) (fun self10 x9=> bif decide (x9.2<(a0.length:Int)) then (bnd a0.length x9.2 fun n11=> a0[n11]?.bind fun y12=> (sF (a1,y12)).bind fun r13=> bif r13.1 then bnd a0.length x9.2 fun n14=> a0[n14]?.bind fun y15=> bif decide (x9.1.length+[y15].length<=4294967296) then some (x9.1++[y15]) else none else some x9.1:Option ((List aV))).bind fun x16=> self10 (x16,IntKind.wrap .i64 (x9.2+(1:Int))) else some x9.1) (x8++[a1],(0:Int)):Option ((List aV))).bind fun x17=> some (x17,()) else none:=by kernel_rfl
def Be:TC:=
 (zS [dG 3 1,bn 4] (zS [dY 8 3 4,ib 9 45 8,KS 5 1000000006,gN 5 5 9] (zS [mI 6 1] (zQ (.join [⟨6,[.i .i64],false⟩] 7232 none (zS [bP 10 3 1,pg 12 11 2] (zC 12 (zR [mI 6 2]) .skip))) (zQ (zS [bH 13,bH 21,QD 14 13 0 1,bP 17 5 0,iW 19 16 18,Uj 20 0 1 1 19,QD 22 21 0 1,bP 25 5 1,iW 27 24 26,Uj 28 0 1 1 27,yX 29 20 28] (zC 29 (zS [bH 30,bH 32,af 40 6,dY 31 3 4,QD 33 32 0 1,bP 36 5 0,iW 38 35 37,Uj 39 0 1 1 38,dY 41 5 2,zEB 42 41,[o5 (.build dP [(1,.t 40),(2,.t 42)]) 43 42,⟨false,[],[],.call 3 57 [.t 0,.t 31,.t 39,.t 43] (.mp 0),[44,0,43,16,19,24,27,38,35],(some 44),none⟩],af 4 44] .ret) .skip)) (zS [bH 45,QD 46 45 0 2,Da 49 5 2 143 48,af 7 50] (zQ (zS [QA 51 7 3 1,pg 54 53 1,[o1 55 (.data (.beq false) [.t 51,.t 54])]] (zC 55 (zS [bH 56,dY 57 3 4,[⟨false,[],[],.call 2 55 [.t 0,.t 57,kO 2] (.mp 0),[58,0,16,19,24,27,48],(some 58),none⟩]] (zS [mI 4 1] .ret)) .skip)) (zQ (.join [⟨0,dO,false⟩] 302230878724380118548481 none (zS [af 59 7] (zC 59 (zR [bH 60,bH 61,QD 62 61 0 2,Da 65 5 2 131 64,nz 67 60,zGc 66 64 68 66]) (zR [bH 69,bH 70,QD 71 70 0 2,Da 74 5 2 130 73,nz 76 69,zGc 75 73 77 75])))) (zS [bH 78,dY 79 3 4,zGd 0 79 1 80 0 80] (zS [mI 4 1] .ret))))))))))
def Ng:aI:=⟨[.mp KP,.rd true [.d,.d,.d,.d]],(.one false [.d])⟩
def Bf:aJ:=aA [(45,UM),(57,Il),(143,qU),(55,Dl),(131,xU),(130,qV)]
def Bg (n:Nat):jY × r_->Option ((Int) × Int × List Int × List aV × List (List Int) × List Int × Int × Int × Int × Int × Int × Int × Int × List aV × Int × List R_):=aB n Bf Be [dO,gy] [.i .i64] dO [4] (.mp 0)
def Bh:=Bg BIG
def Nh:TSp:=⟨Ng,[dO,gy],[.i .i64],dO,Ou.j (.mp 0),Bh⟩
theorem abS:aL PG Bf 58 Ng (Be.ht 81) (.mp 0)=some (Be.wc Bf,[4]):=by kernel_rfl
theorem Zo:Nh.Ok PG 58:=aM (ae adD (ae QO (ae tu (ae Ih (ae Gg (ae tC (ak PG))))))) abS (by kernel_rfl)
theorem abT (n) (a0) (a1):Bg n (a0,a1) = (Iq a1).bind fun r0=> (bif decide (a1.2.1=(2:Int)) then some (2:Int) else some (1:Int):Option (Int)).bind fun x1=> bnd a0.2.1.length r0.1.1 fun n2=> a0.2.1[n2]?.bind fun y3=> bnd a0.2.1.length r0.1.2 fun n4=> a0.2.1[n4]?.bind fun y5=> bif decide (y3=y5) then bnd a0.2.1.length r0.1.1 fun n6=> a0.2.1[n6]?.bind fun y7=> (zx (a0,a1,y7,((0:Int),x1,[r0.1],(0:Int)))).bind fun r8=> some (r8.1,r8.2) else (nC (a0.2.2.1,r0.1)).bind fun r9=> bif (r9.1 == (decide (a1.2.1=(1:Int)))) then (lg (a0,a1,(2:Int))).bind fun r10=> some ((1:Int),r10.2) else (bif r9.1 then (pV (a0.2.2.1,r0.1)).bind fun r11=> some (a0.1,a0.2.1,r11.1,a0.2.2.2) else (nD (a0.2.2.1,r0.1)).bind fun r12=> some (a0.1,a0.2.1,r12.1,a0.2.2.2):Option (jY)).bind fun x13=> (lg (x13,a1,(1:Int))).bind fun r14=> some ((1:Int),r14.2):=by kernel_rfl
def Xe:TC:=
 (zS [dG 2 0,dG 3 1,Ue 4 1000000005,bn 5] (zS [QB 12 2 15 51,Ue 6 1000000007,fZ 6 13 6 13] (zQ (.seq (.join [⟨39,[.b],false⟩] 1099511611392 none (zR [dY 14 2 15,ib 15 52 14,oF 16 15,oD 18 3 3 0 3,CY 42 19 1 100000 20 20 3,kM 21 20 3 17,KR 24 2 15 9,oD 25 9 3 0 9,yY 53 24 26 27 27 9,[o2 28 (.data (.bin .geq) [.t 27,kD 0]) 9 false],uJ 23 28 29,af 30 29,KR 31 2 15 16,Ms 39 31 32 32 16,uJ 30 32 33,af 34 33,pu 35 20 2 14,Ui 37 36 20,[o2 38 (.data (.bin .geq) [.t 37,kD 80]) 20 false],uJ 34 38 39])) (zC 39 (zS [uL 40 6 15 4 4 6,bn 5] .ret) .skip)) (zQ (zS [dY 41 2 15,Da 42 3 4 54 41,h_ 44 43] (zC 44 (zS [dY 45 3 4,zGd 6 45 3 46 6 46] (zS [uL 47 6 15 4 4 6,mI 5 1] .ret)) .skip)) (zQ (zS [bP 48 3 1] (.block 0 (zS [C_ 51 49 3] (zC 50 (zS [Gc 53 2 0 2 3,bP 57 2 2,zGf 59 56 54 56 58,Yz 59 52 59 1,gW 61 52 1,bK 60 7 60,af 8 61] (zS [mI 9 2] (zQ (.join [⟨9,[.i .i64],false⟩] 9440121279720863040000 none (zS [fV 62 7,fV 67 7,bP 63 3 2,iW 65 62 64,Ay 66 7 1 65,bP 68 3 3,iW 70 67 69,Ay 71 7 1 70,yX 72 66 71] (zC 72 (zR [mI 9 1]) .skip))) (zS [dY 73 3 4,af 74 9,zGg 55 6 73 74 75 6 75] (zS [uL 76 6 15 4 4 6,mI 5 1] .ret))))) (zS [jq 78 49 4 77] (zC 77 (zQ (zS [Gc 79 2 1 3 2,mJ 83 80 82 1,bP 85 3 3,yX 87 84 86] (zC 87 (zS [dY 88 3 4,zGd 6 88 2 89 6 89] (zS [uL 90 6 15 4 4 6,mI 5 1] .ret)) .skip)) (zS [zGh 1000000002 3 4 91 91,zGi 1000000002 92 92,[⟨false,[],[1000000002],.det 1 (.load 2 [] 1 (.t 92) 1 false),[93],(some 93),none⟩],zJD 1000000002 94 94 2,zGk 1000000002 93 95 96 96,zGm 1000000002 93 1 0 96 1 97 97,bP 98 3 2,[o5 (.build dP [(1,kO 3),(3,.t 99)]) 100 1000000002],zGn 6 91 97 100 101 6 100 101,af 10 101] (zS [mH 102 6 15,af 103 10,zBz 102 4 102 4 102 102 6,af 5 103] .ret))) .skip)))))) (zS [dY 104 3 4,zGo 58 6 104 105 6 105,af 11 105] (zS [mH 106 6 15,af 107 11,zBz 106 4 106 4 106 106 6,af 5 107] .ret)))))))
def afz:aI:=⟨[.rd true KP,.rd true [.d,.d,.d,.d]],(.tup [(true,15),(false,1)] Ct0)⟩
def Xf:aJ:=aA [(51,H5),(52,M4),(42,dz),(53,zu),(39,PS),(54,Er),(55,Dl),(56,Gf),(57,Il),(58,Nh)]
def Xg (n:Nat):jY × r_->Option (Zt1 × Unit):=aB n Xf Xe [dO,gy] Ty0 [] [4,5] .no
def PT:=Xg BIG
def afA:TSp:=⟨afz,[dO,gy],Ty0,[],Ou.j .no,PT⟩
theorem aov:aL PG Xf 11 afz (Xe.ht 108) .no=some (Xe.wc Xf,[4,5]):=by kernel_rfl
theorem al2:afA.Ok PG 11:=aM (ae QK (ae UI (ae cB (ae El (ae Sg (ae MV (ae Ih (ae UJ (ae QO (ae Zo (ak PG))))))))))) aov (by kernel_rfl)
theorem aow (n) (a0) (a1):Xg n (a0,a1) = (sD a0).bind fun r0=> ((Dk a0).bind fun r1=> bif !r1.1 then some true else (a_ (a1.1,(1:Int),(100000:Int))).bind fun r2=> bif !r2.1 then some true else (sI (a0,a1.1)).bind fun r3=> bif decide ((0:Int)<=r3.1) then some true else (Aa a0).bind fun r4=> bif r4.1 then some true else some (decide ((80:Int)<=(a0.2.2.2.2.2.2.2.2.2.2.2.2.2.2.length:Int))):Option (Bool)).bind fun x5=> bif x5 then some ((r0.1.1,r0.1.2.1,r0.1.2.2.1,r0.1.2.2.2.1,r0.1.2.2.2.2.1,r0.1.2.2.2.2.2.1,r0.1.2.2.2.2.2.2.1,r0.1.2.2.2.2.2.2.2.1,r0.1.2.2.2.2.2.2.2.2.1,r0.1.2.2.2.2.2.2.2.2.2.1,r0.1.2.2.2.2.2.2.2.2.2.2.1,r0.1.2.2.2.2.2.2.2.2.2.2.2.1,r0.1.2.2.2.2.2.2.2.2.2.2.2.2.1,r0.1.2.2.2.2.2.2.2.2.2.2.2.2.2.1,r0.1.2.2.2.2.2.2.2.2.2.2.2.2.2.2,(0:Int)),()) else (wH (a0,a1)).bind fun r6=> bif !r6.1 then (lg (r0.1,a1,(3:Int))).bind fun r7=> some ((r7.2.1,r7.2.2.1,r7.2.2.2.1,r7.2.2.2.2.1,r7.2.2.2.2.2.1,r7.2.2.2.2.2.2.1,r7.2.2.2.2.2.2.2.1,r7.2.2.2.2.2.2.2.2.1,r7.2.2.2.2.2.2.2.2.2.1,r7.2.2.2.2.2.2.2.2.2.2.1,r7.2.2.2.2.2.2.2.2.2.2.2.1,r7.2.2.2.2.2.2.2.2.2.2.2.2.1,r7.2.2.2.2.2.2.2.2.2.2.2.2.2.1,r7.2.2.2.2.2.2.2.2.2.2.2.2.2.2.1,r7.2.2.2.2.2.2.2.2.2.2.2.2.2.2.2,(1:Int)),()) else bif decide (a1.2.1=(3:Int)) then (vE (a0.1,a0.2.2.2.1,a0.2.2.1)).bind fun r8=> (bnd r8.1.1.length a1.2.2.1 fun n9=> r8.1.1[n9]?.bind fun y10=> bnd r8.1.1.length a1.2.2.2 fun n11=> r8.1.1[n11]?.bind fun y12=> bif decide (y10=y12) then some (1:Int) else some (2:Int):Option (Int)).bind fun x13=> (lg (r0.1,a1,x13)).bind fun r14=> some ((r14.2.1,r14.2.2.1,r14.2.2.2.1,r14.2.2.2.2.1,r14.2.2.2.2.2.1,r14.2.2.2.2.2.2.1,r14.2.2.2.2.2.2.2.1,r14.2.2.2.2.2.2.2.2.1,r14.2.2.2.2.2.2.2.2.2.1,r14.2.2.2.2.2.2.2.2.2.2.1,r14.2.2.2.2.2.2.2.2.2.2.2.1,r14.2.2.2.2.2.2.2.2.2.2.2.2.1,r14.2.2.2.2.2.2.2.2.2.2.2.2.2.1,r14.2.2.2.2.2.2.2.2.2.2.2.2.2.2.1,r14.2.2.2.2.2.2.2.2.2.2.2.2.2.2.2,(1:Int)),()) else bif decide (a1.2.1=(4:Int)) then bnd a0.2.1.length a1.2.2.1 fun n15=> a0.2.1[n15]?.bind fun y16=> bif decide (y16=a1.2.2.2) then (lg (r0.1,a1,(2:Int))).bind fun r17=> some ((r17.2.1,r17.2.2.1,r17.2.2.2.1,r17.2.2.2.2.1,r17.2.2.2.2.2.1,r17.2.2.2.2.2.2.1,r17.2.2.2.2.2.2.2.1,r17.2.2.2.2.2.2.2.2.1,r17.2.2.2.2.2.2.2.2.2.1,r17.2.2.2.2.2.2.2.2.2.2.1,r17.2.2.2.2.2.2.2.2.2.2.2.1,r17.2.2.2.2.2.2.2.2.2.2.2.2.1,r17.2.2.2.2.2.2.2.2.2.2.2.2.2.1,r17.2.2.2.2.2.2.2.2.2.2.2.2.2.2.1,r17.2.2.2.2.2.2.2.2.2.2.2.2.2.2.2,(1:Int)),()) else bnd a0.2.1.length a1.2.2.1 fun n18=> a0.2.1[n18]?.bind fun y19=> (zx (r0.1,a1,y19,((0:Int),(3:Int),[],a1.2.2.1))).bind fun r20=> some ((r20.2.1,r20.2.2.1,r20.2.2.2.1,r20.2.2.2.2.1,r20.2.2.2.2.2.1,r20.2.2.2.2.2.2.1,r20.2.2.2.2.2.2.2.1,r20.2.2.2.2.2.2.2.2.1,r20.2.2.2.2.2.2.2.2.2.1,r20.2.2.2.2.2.2.2.2.2.2.1,r20.2.2.2.2.2.2.2.2.2.2.2.1,r20.2.2.2.2.2.2.2.2.2.2.2.2.1,r20.2.2.2.2.2.2.2.2.2.2.2.2.2.1,r20.2.2.2.2.2.2.2.2.2.2.2.2.2.2.1,r20.2.2.2.2.2.2.2.2.2.2.2.2.2.2.2,r20.1),()) else (Bh (r0.1,a1)).bind fun r21=> some ((r21.2.1,r21.2.2.1,r21.2.2.2.1,r21.2.2.2.2.1,r21.2.2.2.2.2.1,r21.2.2.2.2.2.2.1,r21.2.2.2.2.2.2.2.1,r21.2.2.2.2.2.2.2.2.1,r21.2.2.2.2.2.2.2.2.2.1,r21.2.2.2.2.2.2.2.2.2.2.1,r21.2.2.2.2.2.2.2.2.2.2.2.1,r21.2.2.2.2.2.2.2.2.2.2.2.2.1,r21.2.2.2.2.2.2.2.2.2.2.2.2.2.1,r21.2.2.2.2.2.2.2.2.2.2.2.2.2.2.1,r21.2.2.2.2.2.2.2.2.2.2.2.2.2.2.2,r21.1),()):=by kernel_rfl
def Ir:TC:=
 (zS [dG 1 0,zGp 2 1000000003] (zS [iY 5 1 0 5,[o1 7 (.build jK [(0,.t 6)])],zGp 3 1000000004,fZ 3 7 3 7] (zQ (.join [⟨3,jK,false⟩] 8589934360 none (zS [bn 4] (.block 0 (.loop [⟨3,jK,false⟩,⟨4,[.i .i64],false⟩] 8589934360 (zQ (zS [af 8 4,iY 9 1 1 9,rY 11 10 8] (zC 12 .skip (.exit 0))) (zQ (.block 1 (zR [af 19 4,af 25 4,uM 15 3 1,bP 17 1 1,Un 20 18 19 4,bP 23 1 1,zKB 26 24 25 4 1,Mr 29 22 28,zEB 30 29,Mq 16 16 30 31 16 16 3 31,iX 32,F5 3 31 16 3 1 32 31])) (zR [eu 13 4 4]))))))) (zS [uL 33 3 2 2 2 3] .ret))))
def UN:aI:=⟨[.rd true Yv],(.one true Ct7)⟩
def Iu:aJ:=aA []
def Iw (n:Nat):gZ->Option (vo × Unit):=aB n Iu Ir [eX] jK [] [2] .no
def jg:=Iw BIG
def tF:TSp:=⟨UN,[eX],jK,[],Ou.j .no,jg⟩
theorem ag8:aL PG Iu 123 UN (Ir.ht 34) .no=some (Ir.wc Iu,[2]):=by kernel_rfl
theorem wI:tF.Ok PG 123:=aM (ak PG) ag8 (by kernel_rfl)
theorem ag9 (n) (a0):Iw n a0 = (aO n (X:=vo × Int) (B:=vo) (fun self1 x0=> bif decide (x0.2<(a0.2.length:Int)) then bnd a0.2.length x0.2 fun n2=> a0.2[n2]?.bind fun y3=> bnd a0.2.length x0.2 fun n4=> a0.2[n4]?.bind fun y5=> bif decide (x0.1.2.length+([(y3.1,y5.2.1)]).length<=4294967296) then self1 ((x0.1.1,x0.1.2++([(y3.1,y5.2.1)])),IntKind.wrap .i64 (x0.2+(1:Int))) else none else some x0.1) ((a0.1,[]),(0:Int)):Option (vo)).bind fun x6=> some (x6,()):=by kernel_rfl
def Iy:TC:=
 (zS [kN 1 0] (zQ (.join [⟨2,[.b],false⟩] 8188 none (zR [iY 3 1 0 3,uI 5 42 4 12,af 6 5,jJ 7 3,lN 8 1 0 7 3,jJ 9 3,lN 10 1 1 9 3,qP 139 8 10 11 11 3,mM 6 11 12 2])) .ret))
def UO:aI:=⟨[.rd true Ct7],(.one false [.d])⟩
def Iz:aJ:=aA [(42,dz),(139,pz)]
def IA (n:Nat):vo->Option ((Bool) × Unit):=aB n Iz Iy [jK] [.b] [] [2] .no
def tH:=IA BIG
def zy:TSp:=⟨UO,[jK],[.b],[],Ou.j .no,tH⟩
theorem ag_:aL PG Iz 127 UO (Iy.ht 13) .no=some (Iy.wc Iz,[2]):=by kernel_rfl
theorem Es:zy.Ok PG 127:=aM (ae cB (ae sG (ak PG))) ag_ (by kernel_rfl)
theorem aha (n) (a0):IA n a0 = ((a_ (a0.1,(1:Int),(12:Int))).bind fun r0=> bif r0.1 then (l5 (a0.1,a0.2)).bind fun r1=> some r1.1 else some false:Option (Bool)).bind fun x2=> some (x2,()):=by kernel_rfl
def IB:TC:=
 (zS [dG 2 0,zGb 4] (zS [Qk 8,bK 8 5 8] (zQ (.join [⟨5,[.sl [.i .i64,.i .i64]],false⟩] 137438953184 none (zS [bn 6] (.block 0 (.loop [⟨5,[.sl [.i .i64,.i .i64]],false⟩,⟨6,[.i .i64],false⟩] 137438953184 (zQ (zS [QA 9 6 2 1,rY 12 11 9] (zC 13 .skip (.exit 0))) (zQ (.join [⟨5,[.sl [.i .i64,.i .i64]],false⟩] 137438888096 none (.block 1 (zS [bP 16 2 1,Uq 18 6 17 4 4,zGq 7 1000000008,gN 7 7 20] (zQ (.join [⟨28,[.b],false⟩] 534773760 none (zR [bP 21 7 3,AO 23 22 2 7 2 2,fq 26 1 2,[o2 27 (.data (.bin .geq) [.t 25,.t 26]) 2 true],oZ 23 27 28])) (zC 28 (zR [bK 5 29 5,Gc 30 7 0 7 1,Mr 34 31 33,QC 35 34 29 29 5]) .skip))))) (zR [eu 14 6 6]))))))) (zS [AB 5 37 5 4] .ret))))
def UQ:aI:=⟨[.rd true Yv,.rd false [.d]],(.one false ny)⟩
def IC:aJ:=aA []
def IE (n:Nat):gZ × Int->Option ((List aV) × Unit):=aB n IC IB [eX,[.i .i64]] [.sl [.i .i64,.i .i64]] [] [4] .no
def IG:=IE BIG
def UR:TSp:=⟨UQ,[eX,[.i .i64]],[.sl [.i .i64,.i .i64]],[],Ou.j .no,IG⟩
theorem ahb:aL PG IC 203 UQ (IB.ht 38) .no=some (IB.wc IC,[4]):=by kernel_rfl
theorem adE:UR.Ok PG 203:=aM (ak PG) ahb (by kernel_rfl)
theorem ahc (n) (a0) (a1):IE n (a0,a1) = (aO n (X:=(List aV) × Int) (B:=(List aV)) (fun self1 x0=> bif decide (x0.2<(a0.2.length:Int)) then (bnd a0.2.length x0.2 fun n2=> a0.2[n2]?.bind fun y3=> (bif y3.2.2.2 then some (decide (a1<=y3.2.2.1)) else some false:Option (Bool)).bind fun x4=> bif x4 then bif decide (x0.1.length+([(y3.1,y3.2.1)]).length<=4294967296) then some (x0.1++([(y3.1,y3.2.1)])) else none else some x0.1:Option ((List aV))).bind fun x5=> self1 (x5,IntKind.wrap .i64 (x0.2+(1:Int))) else some x0.1) ([],(0:Int)):Option ((List aV))).bind fun x6=> some (x6,()):=by kernel_rfl
def Sj:TC:=
 (zS [bf 4] (zQ (.join [] 262128 (some [⟨4,[.b],false⟩]) (zS [bn 5] (.block 0 (.loop [⟨5,[.i .i64],false⟩] 262128 (zQ (zS [bM 6 5 0,kX 8 7,kY 9 6 8] (zC 9 .skip (.exit 0))) (zQ (.block 1 (zS [Qx 12 0 5 1,af 16 1,yX 17 15 16] (zC 17 (zS [fI 4] .ret) .skip))) (zR [eu 10 5 5]))))))) (zS [bf 4] .ret)))
def abU:aI:=⟨[.rd false gK,.rd false [.d]],(.one false [.d])⟩
def Sl:aJ:=aA []
def Sm (n:Nat):List Int × Int->Option ((Bool) × Unit):=aB n Sl Sj [[.sl [.i .i64]],[.i .i64]] [.b] [] [4] .no
def g_:=Sm BIG
def qj:TSp:=⟨abU,[[.sl [.i .i64]],[.i .i64]],[.b],[],Ou.j .no,g_⟩
theorem al3:aL PG Sl 204 abU (Sj.ht 18) .no=some (Sj.wc Sl,[4]):=by kernel_rfl
theorem qW:qj.Ok PG 204:=aM (ak PG) al3 (by kernel_rfl)
theorem al4 (n) (a0) (a1):Sm n (a0,a1) = (aO n (X:=Int) (B:=(Unit) ⊕ (Bool)) (fun self1 x0=> bif decide (x0<(a0.length:Int)) then bnd a0.length x0 fun n2=> a0[n2]?.bind fun y3=> bif decide (y3=a1) then some (Sum.inr true) else self1 (IntKind.wrap .i64 (x0+(1:Int))) else some (Sum.inl ())) (0:Int):Option ((Unit) ⊕ (Bool))).bind fun y=>match y with | .inl x4=> some (false,()) | .inr x4=> some (x4,()):=by kernel_rfl
def II:TC:=
 (zS [zBb 10,bf 11] (zS [af 17 2,KQ 18 17,bK 18 12 18] (zS [fV 19 4,af 20 2,iW 21 19 20,[o4 1 [4,19] (.store 4 [(0,1)] 0 (.t 21) (.c [.b] [.bool true]))]] (zQ (.join [⟨12,[.sl [.i .i64]],false⟩,⟨4,[.sl [.b]],false⟩] 147573952589672348688 (some [⟨10,[.sl [.i .i64]],false⟩,⟨11,[.b],false⟩,⟨4,[.sl [.b]],false⟩]) (zS [bn 13] (.block 0 (.loop [⟨12,[.sl [.i .i64]],false⟩,⟨4,[.sl [.b]],false⟩,⟨13,[.i .i64],false⟩] 147573952589674445840 (zQ (zS [C9 22 13 0] (zC 24 .skip (.exit 0))) (zQ (.join [⟨12,[.sl [.i .i64]],false⟩,⟨4,[.sl [.b]],false⟩] 147573952589542317072 (some [⟨10,[.sl [.i .i64]],false⟩,⟨11,[.b],false⟩,⟨4,[.sl [.b]],false⟩]) (.block 1 (zS [bM 27 13 2,Mr 29 27 28,KS 14 1000000015,gN 14 14 29] (zQ (.join [⟨14,[.i .i64,.i .i64],false⟩] 67645751296 none (zS [C9 30 2 13] (zC 32 (zR [bM 33 2 13,Mr 35 33 34,gN 14 14 35]) .skip))) (zQ (.seq (.join [⟨44,[.b],false⟩] 35115652612096 none (zR [bM 36 13 3,yX 38 36 37,y_ 39 38 1 3,KR 41 14 2 3,yY 143 40 41 42 42 3,uK 43 42 3 39])) (zC 44 (.exit 1) .skip)) (zQ (zS [fV 45 4,af 46 13,iW 47 45 46,Ay 48 4 1 47] (zC 48 (zS [AB 12 49 12 10,fI 11] .ret) .skip)) (zS [bM 51 0 1,bM 53 13 2,fV 55 4,[⟨false,[],[],.call 2 207 [.t 51,.t 52,.t 53,.t 54,.t 55] (.mt 4 [] 0 55 4),[56,4,45,47,55],(some 56),none⟩],Yz 56 50 56 1,gW 58 50 1,bK 57 15 57,af 16 58] (zQ (zS [af 59 16] (zC 59 (zS [AB 12 60 12 10,fI 11] .ret) .skip)) (zR [bK 12 61 12,bK 15 62 15,xf 61 62 63 61,af 64 2,KQ 65 64,KV 63 65 66 63 12]))))))))) (zR [Mw 25 13]))))))) (zS [AB 12 67 12 10,bf 11] .ret)))))
def IJ:aI:=⟨[.rd false [.d],.rd false ny,.rd false [.d],.rd false [.d],.mt false gK],(.tup [(false,1),(false,1)] Ct9)⟩
def IK (q:Int × (List aV) × Int × Int × List (Bool)->Option ((List Int × Bool) × List (Bool))):aJ:=aA [(143,qU),(207,⟨IJ,[[.i .i64],[.sl [.i .i64,.i .i64]],[.i .i64],[.i .i64],[.sl [.b]]],[.sl [.i .i64],.b],[.sl [.b]],Ou.j (.mt 4 4 0),q⟩)]
def IL (q:Int × (List aV) × Int × Int × List (Bool)->Option ((List Int × Bool) × List (Bool))) (n:Nat):Int × (List aV) × Int × Int × List (Bool)->Option ((List Int × Bool) × List (Bool)):=aB n (IK q) II [[.i .i64],[.sl [.i .i64,.i .i64]],[.i .i64],[.i .i64],[.sl [.b]]] [.sl [.i .i64],.b] [.sl [.b]] [10,11] (.mt 4 4 0)
def tJ:Nat->Int × (List aV) × Int × Int × List (Bool)->Option ((List Int × Bool) × List (Bool))
 | 0=>fun _=>none
 | d+1=>IL (tJ d) BIG
def UT (d:Nat):TSp:=⟨IJ,[[.i .i64],[.sl [.i .i64,.i .i64]],[.i .i64],[.i .i64],[.sl [.b]]],[.sl [.i .i64],.b],[.sl [.b]],Ou.j (.mt 4 4 0),(tJ d)⟩
theorem ahd (q:Int × (List aV) × Int × Int × List (Bool)->Option ((List Int × Bool) × List (Bool))):aL PG (IK q) 207 IJ (II.ht 68) (.mt 4 4 0)=some (II.wc (IK q),[10,11]):=by kernel_rfl
theorem QP:∀d:Nat,(UT d).Ok PG 207
 | 0=>fun _ _ _ h=>by cases h
 | d+1=>aM (ae tu (ae (QP d) (ak PG))) (ahd _) (by kernel_rfl)
theorem ahe (q:Int × (List aV) × Int × Int × List (Bool)->Option ((List Int × Bool) × List (Bool))) (n) (a0) (a1) (a2) (a3) (a4):IL q n (a0,a1,a2,a3,a4) =
 bnd a4.length a2 fun n0=>
 a4[n0]?.bind fun y1=>
 (aO n (X:=(List Int) × (List (Bool)) × Int) (B:=((List Int) × (List (Bool))) ⊕ ((List Int) × Bool × (List (Bool)))) (fun self3 x2=>
  bif decide (x2.2.2<a0) then
   ((bif decide (a2<x2.2.2) then
     some (a2,x2.2.2)
    else some (x2.2.2,a2):Option (aV)).bind fun x4=>
    (bif decide (x2.2.2=a3) then
     some true
     else (nC (a1,x4)).bind fun r5=>
     some !r5.1:Option (Bool)).bind fun x6=>
    bif x6 then
     some (Sum.inl (x2.1,x2.2.1))
    else bnd x2.2.1.length x2.2.2 fun n7=>
    x2.2.1[n7]?.bind fun y8=>
    bif y8 then
     some (Sum.inr (x2.1,true,x2.2.1))
    else (q (a0,a1,x2.2.2,a2,x2.2.1)).bind fun r9=>
    bif r9.1.2 then
     some (Sum.inr (x2.1,true,r9.2))
    else bif decide (x2.1.length+r9.1.1.length<=4294967296) then
     bif decide ((x2.1++r9.1.1).length+[a2].length<=4294967296) then
      some (Sum.inl ((x2.1++r9.1.1)++[a2],r9.2))
     else none
    else none:Option (((List Int) × (List (Bool))) ⊕ ((List Int) × Bool × (List (Bool))))).bind fun y=>match y with
   | .inl x10=>
    self3 (x10.1,x10.2,IntKind.wrap .i64 (x2.2.2+(1:Int)))
   | .inr x10=>
    some (Sum.inr (x10.1,x10.2.1,x10.2.2))
  else some (Sum.inl (x2.1,x2.2.1))) ([a2],a4.set n0 true,(0:Int)):Option (((List Int) × (List (Bool))) ⊕ ((List Int) × Bool × (List (Bool))))).bind fun y=>match y with
 | .inl x11=>
  some ((x11.1,false),x11.2)
 | .inr x11=>
  some ((x11.1,x11.2.1),x11.2.2):=by kernel_rfl
def Ni:TC:=
 (zS [zBb 6,bf 7] (zQ (.seq (.join [⟨20,[.b],false⟩] 2095104 none (zR [af 11 0,uI 12 42 11 12,oF 13 12,dH 15 2 3,dH 16 0 3,zEn 17 16 3,zEo 15 17 18 18 3,uK 19 18 3 14])) (zC 20 (zS [xe 21,bK 21 6 21,bf 7] .ret) .skip)) (zQ (.join [] 68715282880 (some [⟨6,[.sl [.i .i64]],false⟩,⟨7,[.b],false⟩]) (zS [bn 8] (.block 0 (.loop [⟨8,[.i .i64],false⟩] 68715282880 (zQ (zS [F8 22 8 1] (zC 25 .skip (.exit 0))) (zQ (.block 1 (zS [bM 28 0 1,Uq 30 8 29 2 2,kZ 33 128 28 32,h_ 34 33] (zC 34 (zS [xe 35,bK 35 6 35,bf 7] .ret) .skip))) (zR [eu 26 8 8]))))))) (zS [bM 37 0 1,bM 39 2 0,[o1 41 (.make (.t 40) [.b]),⟨false,[],[],.call 2 207 [.t 37,.t 38,.t 39,kO (-1),.t 41] (.mt 41 [] 0 41 4),[42,41],(some 42),none⟩],Yz 42 36 42 1,gW 44 36 1,bK 43 9 43,af 10 44] (zQ (zS [af 45 10] (zC 45 (zS [xe 46,bK 46 6 46,bf 7] .ret) .skip)) (zS [AB 9 47 9 6,fI 7] .ret))))))
def YK:aI:=⟨[.rd false [.d],.rd false ny,.rd false [.d]],(.tup [(false,1),(false,1)] Ct9)⟩
def Nj:aJ:=aA [(42,dz),(128,xq),(207,UT 64)]
def Nk (n:Nat):Int × (List aV) × Int->Option ((List Int × Bool) × Unit):=aB n Nj Ni [[.i .i64],[.sl [.i .i64,.i .i64]],[.i .i64]] [.sl [.i .i64],.b] [] [6,7] .no
def Dm:=Nk BIG
def YL:TSp:=⟨YK,[[.i .i64],[.sl [.i .i64,.i .i64]],[.i .i64]],[.sl [.i .i64],.b],[],Ou.j .no,Dm⟩
theorem aj5:aL PG Nj 205 YK (Ni.ht 48) .no=some (Ni.wc Nj,[6,7]):=by kernel_rfl
theorem ahf:YL.Ok PG 205:=aM (ae cB (ae zt (ae (QP 64) (ak PG)))) aj5 (by kernel_rfl)
theorem aj6 (n) (a0) (a1) (a2):Nk n (a0,a1,a2) = ((a_ (a0,(1:Int),(12:Int))).bind fun r0=> bif !r0.1 then some true else (a_ (a2,(0:Int),IntKind.wrap .i64 (a0-(1:Int)))).bind fun r1=> some !r1.1:Option (Bool)).bind fun x2=> bif x2 then some (([],false),()) else (aO n (X:=Int) (B:=(Unit) ⊕ ((List Int) × Bool)) (fun self4 x3=> bif decide (x3<(a1.length:Int)) then bnd a1.length x3 fun n5=> a1[n5]?.bind fun y6=> (qR (a0,y6)).bind fun r7=> bif !r7.1 then some (Sum.inr ([],false)) else self4 (IntKind.wrap .i64 (x3+(1:Int))) else some (Sum.inl ())) (0:Int):Option ((Unit) ⊕ ((List Int) × Bool))).bind fun y=>match y with | .inl x8=> bif decide (0<=a0) then bif decide ((Int.toNat a0)<=4294967296) then (tJ 64 (a0,a1,a2,(-1:Int),List.replicate (Int.toNat a0) false)).bind fun r9=> bif r9.1.2 then some (([],false),()) else some ((r9.1.1,true),()) else none else none | .inr x8=> some (x8,()):=by kernel_rfl
def Et:TC:=
 (zS [dG 2 0,zGr 4 1000000005,bf 5] (zS [bP 12 2 0,[o1 14 (.build oH [(0,.t 13)])],zGr 6 1000000007,zGs 14 6 14 6 14 14] (zS [dY 15 2 2,af 16 1,Qv 17 203 15 16 7] (zQ (zS [bP 18 2 0,uI 20 42 19 12,h_ 21 20] (zC 21 (zS [[o1 22 (.build oH [])],zGs 22 4 22 4 22 22,bf 5] .ret) .skip)) (zS [xe 23,bK 23 8 23] (zQ (.join [⟨4,oH,false⟩,⟨6,oH,false⟩] 9007199237967728 (some [⟨4,oH,false⟩,⟨5,[.b],false⟩]) (zS [bn 9] (.block 0 (.loop [⟨4,oH,false⟩,⟨6,oH,false⟩,⟨8,[.sl [.i .i64]],false⟩,⟨9,[.i .i64],false⟩] 9007199237967728 (zQ (zS [QA 24 9 2 0,kY 27 24 26] (zC 27 .skip (.exit 0))) (zQ (.join [⟨4,oH,false⟩,⟨6,oH,false⟩,⟨8,[.sl [.i .i64]],false⟩] 9007198181002608 (some [⟨4,oH,false⟩,⟨5,[.b],false⟩]) (.block 1 (zQ (zS [fV 30 8,af 31 9,kZ 32 204 30 31] (zC 32 (.exit 1) .skip)) (zS [bP 34 2 0,fV 36 7,af 37 9,zGf 38 205 35 36 37,Yz 38 33 38 1,gW 40 33 1,bK 39 10 39,af 11 40] (zQ (zS [af 41 11,h_ 42 41] (zC 42 (zS [[o1 43 (.build oH [])],zGs 43 4 43 4 43 43,bf 5] .ret) .skip)) (zS [uM 44 6 1,zGt 10 10 46 10 46,[o1 47 (.sli [.sl [.i .i64]] [.t 46])],Mq 45 45 47 48 45 45 6 48,iX 49,F5 6 48 45 6 1 49 48] (zR [Uk 8 50 8 30 50,af 51 10,xf 50 51 52 50,Uk 52 8 52 30 8]))))))) (zR [eu 28 9 9]))))))) (zS [uL 53 6 2 4 4 6,fI 5] .ret)))))))
def QQ:aI:=⟨[.rd true Yv,.rd false [.d]],(.tup [(true,2),(false,1)] [.d,.sl (.own none) [.sl (.ro []) [.d]],.d])⟩
def Eu:aJ:=aA [(203,UR),(42,dz),(204,qj),(205,YL)]
def Ev (n:Nat):gZ × Int->Option ((Int × List (List Int) × Bool) × Unit):=aB n Eu Et [eX,[.i .i64]] [.i .i64,.sl [.sl [.i .i64]],.b] [] [4,5] .no
def l6:=Ev BIG
def pE:TSp:=⟨QQ,[eX,[.i .i64]],[.i .i64,.sl [.sl [.i .i64]],.b],[],Ou.j .no,l6⟩
theorem adF:aL PG Eu 182 QQ (Et.ht 54) .no=some (Et.wc Eu,[4,5]):=by kernel_rfl
theorem tK:pE.Ok PG 182:=aM (ae adE (ae cB (ae qW (ae ahf (ak PG))))) adF (by kernel_rfl)
theorem adG (n) (a0) (a1):Ev n (a0,a1) =
 (IG (a0,a1)).bind fun r0=>
 (a_ (a0.1,(1:Int),(12:Int))).bind fun r1=>
 bif !r1.1 then
  some (((0:Int),[],false),())
 else (aO n (X:=vw × vw × (List Int) × Int) (B:=(vw × vw) ⊕ (vw × Bool)) (fun self3 x2=>
  bif decide (x2.2.2.2<a0.1) then
   ((g_ (x2.2.2.1,x2.2.2.2)).bind fun r4=>
    bif r4.1 then
     some (Sum.inl (x2.1,x2.2.1,x2.2.2.1))
    else (Dm (a0.1,r0.1,x2.2.2.2)).bind fun r5=>
    bif !r5.1.2 then
     some (Sum.inr (((0:Int),[]),false))
    else bif decide (x2.2.1.2.length+[r5.1.1].length<=4294967296) then
     bif decide (x2.2.2.1.length+r5.1.1.length<=4294967296) then
      some (Sum.inl (x2.1,(x2.2.1.1,x2.2.1.2++[r5.1.1]),x2.2.2.1++r5.1.1))
     else none
    else none:Option ((vw × vw × (List Int)) ⊕ (vw × Bool))).bind fun y=>match y with
   | .inl x6=>
    self3 (x6.1,x6.2.1,x6.2.2,IntKind.wrap .i64 (x2.2.2.2+(1:Int)))
   | .inr x6=>
    some (Sum.inr (x6.1,x6.2))
  else some (Sum.inl (x2.1,x2.2.1))) (((0:Int),[]),(a0.1,[]),[],(0:Int)):Option ((vw × vw) ⊕ (vw × Bool))).bind fun y=>match y with
 | .inl x7=>
  some ((x7.2.1,x7.2.2,true),())
 | .inr x7=>
  some ((x7.1.1,x7.1.2,x7.2),()):=by kernel_rfl
def IM:TC:=
 (zS [zBb 2] (zS [xe 5,bK 5 3 5] (zQ (.join [⟨3,[.sl [.i .i64]],false⟩] 131032 none (zS [bn 4] (.block 0 (.loop [⟨3,[.sl [.i .i64]],false⟩,⟨4,[.i .i64],false⟩] 131032 (zQ (zS [af 6 4,[o1 7 (.data (.bin .lss) [.t 6,kD 12])]] (zC 7 .skip (.exit 0))) (zQ (.join [⟨3,[.sl [.i .i64]],false⟩] 130056 none (.block 1 (zS [bM 10 0 4,kZ 12 204 10 11] (zC 12 (zR [bK 3 13 3,af 14 4,KQ 15 14,KV 13 15 16 13 3]) .skip)))) (zR [af 8 4,yT 9 8,af 4 9]))))))) (zS [AB 3 17 3 2] .ret))))
def UU:aI:=⟨[.rd false gK],(.one false gK)⟩
def IP:aJ:=aA [(204,qj)]
def IQ (n:Nat):List (Int)->Option ((List Int) × Unit):=aB n IP IM [[.sl [.i .i64]]] [.sl [.i .i64]] [] [2] .no
def iD:=IQ BIG
def tL:TSp:=⟨UU,[[.sl [.i .i64]]],[.sl [.i .i64]],[],Ou.j .no,iD⟩
theorem ahg:aL PG IP 186 UU (IM.ht 18) .no=some (IM.wc IP,[2]):=by kernel_rfl
theorem wJ:tL.Ok PG 186:=aM (ae qW (ak PG)) ahg (by kernel_rfl)
theorem ahh (n) (a0):IQ n a0 = (aO n (X:=(List Int) × Int) (B:=(List Int)) (fun self1 x0=> bif decide (x0.2<(12:Int)) then ((g_ (a0,x0.2)).bind fun r2=> bif r2.1 then bif decide (x0.1.length+[x0.2].length<=4294967296) then some (x0.1++[x0.2]) else none else some x0.1:Option ((List Int))).bind fun x3=> self1 (x3,IntKind.wrap .i64 (x0.2+(1:Int))) else some x0.1) ([],(0:Int)):Option ((List Int))).bind fun x4=> some (x4,()):=by kernel_rfl
def IR:TC:=
 (zS [bf 2] (zS [af 6 0,zGv 7 6,Ay 8 6 1 7,KQ 9 8,bK 9 3 9] (zS [af 10 0,zGv 11 10,Ay 12 10 1 11,KQ 13 12,bK 13 4 13] (zQ (.join [⟨3,[.sl [.i .i64]],false⟩] 2305843009213677628 (some [⟨2,[.b],false⟩]) (zS [mI 5 1] (.block 0 (.loop [⟨3,[.sl [.i .i64]],false⟩,⟨4,[.sl [.i .i64]],false⟩,⟨5,[.i .i64],false⟩] 2305843009213677628 (zQ (zS [F8 14 5 0] (zC 17 .skip (.exit 0))) (zQ (.join [⟨3,[.sl [.i .i64]],false⟩,⟨4,[.sl [.i .i64]],false⟩] 2305843009212645404 (some [⟨2,[.b],false⟩]) (.block 1 (zQ (.seq (.join [⟨35,[.b],false⟩] 68718428160 none (zR [fV 20 3,kX 21 20,w_ 22 21 1,Ga 23 22 0 3,fq 25 5 3,CZ 26 24 25 3,Uh 27 24 1 26 3,zGw 3 28 28 3,zGw 3 29 29 3,zGx 30 29 3,[o2 31 (.data (.bin .sub) [.t 30,kD 2]) 3 true],CZ 32 28 31 3,Uh 33 3 1 32 3,Qp 34 27 33 3,oZ 23 34 35])) (zC 35 (zS [fV 36 3,fV 37 3,kX 38 37,F6 39 38,[⟨true,[36],[],.det 2 (.res 36 none (some (.t 39))),[40,36,36,3,20,37],(some 40),none⟩,⟨false,[],[],.det 2 (.copy 40),[3,40,20,37,36],(some 3),none⟩]] (.exit 1)) .skip)) (zQ (zS [fV 41 4,Qx 42 0 5 1,kZ 46 204 41 45] (zC 46 (zS [bf 2] .ret) .skip)) (zS [Uk 4 47 4 41 47,Qx 48 0 5 1,KQ 52 51,xf 47 52 53 47,Uk 53 4 53 41 4] (zR [Uk 3 54 3 20 54,Qx 55 0 5 1,KQ 59 58,xf 54 59 60 54,Uk 60 3 60 20 3])))))) (zR [eu 18 5 5]))))))) (zS [bK 3 61 3,kX 62 61,jq 63 62 1 2] .ret)))))
def UV:aI:=⟨[.rd false gK],(.one false [.d])⟩
def IU:aJ:=aA [(204,qj)]
def IV (n:Nat):List (Int)->Option ((Bool) × Unit):=aB n IU IR [[.sl [.i .i64]]] [.b] [] [2] .no
def IW:=IV BIG
def UW:TSp:=⟨UV,[[.sl [.i .i64]]],[.b],[],Ou.j .no,IW⟩
theorem ahi:aL PG IU 209 UV (IR.ht 64) .no=some (IR.wc IU,[2]):=by kernel_rfl
theorem adH:UW.Ok PG 209:=aM (ae qW (ak PG)) ahi (by kernel_rfl)
theorem ahj (n) (a0):IV n a0 =
 bnd a0.length (0:Int) fun n0=>
 a0[n0]?.bind fun y1=>
 bnd a0.length (0:Int) fun n2=>
 a0[n2]?.bind fun y3=>
 (aO n (X:=(List Int) × (List Int) × Int) (B:=((List Int)) ⊕ (Bool)) (fun self5 x4=>
  bif decide (x4.2.2<(a0.length:Int)) then
   ((bif decide ((1:Int)<(x4.1.length:Int)) then
     bnd a0.length x4.2.2 fun n6=>
     a0[n6]?.bind fun y7=>
     bnd x4.1.length (IntKind.wrap .i64 ((x4.1.length:Int)-(2:Int))) fun n8=>
     x4.1[n8]?.bind fun y9=>
     some (decide (y7=y9))
    else some false:Option (Bool)).bind fun x10=>
    bif x10 then
     bif decide (0<=(IntKind.wrap .i64 ((x4.1.length:Int)-(1:Int)))) then
      bif decide (0<=(Int.toNat (IntKind.wrap .i64 ((x4.1.length:Int)-(1:Int))))/\(Int.toNat (IntKind.wrap .i64 ((x4.1.length:Int)-(1:Int))))<=x4.1.length) then
       some (Sum.inl (List.take ((Int.toNat (IntKind.wrap .i64 ((x4.1.length:Int)-(1:Int))))-0) (List.drop 0 x4.1),x4.2.1))
      else none
     else none
    else bnd a0.length x4.2.2 fun n11=>
    a0[n11]?.bind fun y12=>
    (g_ (x4.2.1,y12)).bind fun r13=>
    bif r13.1 then
     some (Sum.inr false)
    else bnd a0.length x4.2.2 fun n14=>
    a0[n14]?.bind fun y15=>
    bif decide (x4.2.1.length+[y15].length<=4294967296) then
     bnd a0.length x4.2.2 fun n16=>
     a0[n16]?.bind fun y17=>
     bif decide (x4.1.length+[y17].length<=4294967296) then
      some (Sum.inl (x4.1++[y17],x4.2.1++[y15]))
     else none
    else none:Option (((List Int) × (List Int)) ⊕ (Bool))).bind fun y=>match y with
   | .inl x18=>
    self5 (x18.1,x18.2,IntKind.wrap .i64 (x4.2.2+(1:Int)))
   | .inr x18=>
    some (Sum.inr x18)
  else some (Sum.inl x4.1)) ([y1],[y3],(1:Int)):Option (((List Int)) ⊕ (Bool))).bind fun y=>match y with
 | .inl x19=>
  some (decide ((x19.length:Int)=(1:Int)),())
 | .inr x19=>
  some (x19,()):=by kernel_rfl
def Nl:TC:=
 (zS [bf 2] (zQ (zS [xh 4 0 4,uI 6 42 5 23,h_ 7 6] (zC 7 (zS [bf 2] .ret) .skip)) (zQ (.join [] 1048332 (some [⟨2,[.b],false⟩]) (zS [bn 3] (.block 0 (.loop [⟨3,[.i .i64],false⟩] 1048332 (zQ (zS [bM 8 3 0,rY 10 9 8] (zC 11 .skip (.exit 0))) (zQ (.block 1 (zS [Qx 14 0 3 1,zGy 18 42 17 0 11,h_ 19 18] (zC 19 (zS [bf 2] .ret) .skip))) (zR [eu 12 3 3]))))))) (zS [af 20 0,ib 21 209 20,af 2 21] .ret))))
def YM:aI:=⟨[.rd false gK],(.one false [.d])⟩
def Nn:aJ:=aA [(42,dz),(209,UW)]
def Np (n:Nat):List (Int)->Option ((Bool) × Unit):=aB n Nn Nl [[.sl [.i .i64]]] [.b] [] [2] .no
def Nq:=Np BIG
def YN:TSp:=⟨YM,[[.sl [.i .i64]]],[.b],[],Ou.j .no,Nq⟩
theorem aj7:aL PG Nn 208 YM (Nl.ht 22) .no=some (Nl.wc Nn,[2]):=by kernel_rfl
theorem ahk:YN.Ok PG 208:=aM (ae cB (ae adH (ak PG))) aj7 (by kernel_rfl)
theorem aj8 (n) (a0):Np n a0 = (a_ ((a0.length:Int),(1:Int),(23:Int))).bind fun r0=> bif !r0.1 then some (false,()) else (aO n (X:=Int) (B:=(Unit) ⊕ (Bool)) (fun self2 x1=> bif decide (x1<(a0.length:Int)) then bnd a0.length x1 fun n3=> a0[n3]?.bind fun y4=> (a_ (y4,(0:Int),(11:Int))).bind fun r5=> bif !r5.1 then some (Sum.inr false) else self2 (IntKind.wrap .i64 (x1+(1:Int))) else some (Sum.inl ())) (0:Int):Option ((Unit) ⊕ (Bool))).bind fun y=>match y with | .inl x6=> (IW a0).bind fun r7=> some (r7.1,()) | .inr x6=> some (x6,()):=by kernel_rfl
end
end Go.Fw
