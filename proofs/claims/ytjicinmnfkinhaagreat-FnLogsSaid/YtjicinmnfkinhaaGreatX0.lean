/- The given functions, as what they compute; each is shown to be what the code does. No conditions. -/
import Derived.Test.YtjicinmnfkinhaaGreatG5
import Derived.Test.YtjicinmnfkinhaaGreatProg
set_option linter.unusedSectionVars false
namespace Go.Fw
noncomputable abbrev PG:=Go.Proofs.Tryz.prog
def o2 (d:Nat) (e:ED) (j:Nat) (b:Bool):TO:=⟨false,[],[],.det 1 e,[d],some d,some (j,b)⟩
def o3 (d:Nat) (K:FuncId) (gets:List OY):TO:=⟨false,[],[],.call 1 K gets .no,[d],some d,none⟩
def o4 (n:Nat) (ds:List Nat) (e:ED):TO:=⟨false,[],[],.det n e,ds,none,none⟩
abbrev Ty0 : List TY := [.i .i64, .sl [.i .i64], .sl [.i .i64, .i .i64], .sl [.sl [.i .i64]], .sl [.i .i64], .i .i64, .i .i64, .i .i64, .i .i64, .i .i64, .i .i64, .i .i64, .sl [.i .i64, .i .i64], .i .i64, .sl [.i .i64, .i .i64, .i .i64, .i .i64, .i .i64, .i .i64], .i .i64]
abbrev gF : List TY := [.i .i64, .sl [.i .i64], .sl [.i .i64, .i .i64], .sl [.sl [.i .i64]], .sl [.i .i64], .i .i64, .i .i64, .i .i64, .i .i64, .i .i64, .i .i64, .i .i64, .sl [.i .i64, .i .i64], .i .i64, .sl [.i .i64, .i .i64, .i .i64, .i .i64, .i .i64, .i .i64]]
abbrev Ty2 : List TY := [.i .i64, .i .i64, .sl [.i .i64, .i .i64, .i .i64, .i .i64, .i .i64, .i .i64, .i .i64, .b, .sl [.i .i64, .i .i64], .sl [.i .i64], .i .i64, .i .i64, .sl [.i .i64, .i .i64], .i .i64]]
abbrev Tv : List TY := [.sl [.i .i64, .i .i64, .i .i64, .i .i64, .i .i64, .i .i64, .i .i64, .b, .sl [.i .i64, .i .i64], .sl [.i .i64], .i .i64, .i .i64, .sl [.i .i64, .i .i64], .i .i64]]
abbrev xA : List TY := [.i .i64, .i .i64, .i .i64, .i .i64, .i .i64, .i .i64, .i .i64, .b, .sl [.i .i64, .i .i64], .sl [.i .i64], .i .i64, .i .i64, .sl [.i .i64, .i .i64], .i .i64]
abbrev Ty5 : List TY := [.sl [.i .i64, .i .i64, .sl [.i .i64, .i .i64, .i .i64, .b], .i .i64, .b, .sl [.i .i64, .i .i64], .sl [.i .i64]]]
abbrev Cu : List TY := [.i .i64, .i .i64, .sl [.i .i64, .i .i64, .i .i64, .b], .i .i64, .b, .sl [.i .i64, .i .i64], .sl [.i .i64]]
abbrev Ty7 : List TY := [.i .i64, .i .i64, .i .i64, .i .i64, .i .i64, .i .i64, .i .i64, .sl [.i .i64, .i .i64], .i .i64]
abbrev Ty8 : List TY := [.i .i64, .i .i64, .i .i64, .i .i64, .i .i64, .i .i64]
abbrev lh : List TY := [.i .i64, .b, .sl [.i .i64, .i .i64], .sl [.i .i64]]
abbrev jf : List TY := [.i .i64, .i .i64, .sl [.i .i64, .i .i64], .i .i64]
abbrev apn : List TY := [.i .i64, .sl [.i .i64, .i .i64, .i .i64, .b], .b]
abbrev iG : List TY := [.i .i64, .sl [.i .i64, .i .i64, .i .i64, .b]]
abbrev oP : List TY := [.sl [.i .i64, .i .i64, .i .i64, .b]]
abbrev jq : List TY := [.i .i64, .i .i64, .i .i64, .i .i64]
abbrev xB : List TY := [.i .i64, .sl [.i .i64, .i .i64]]
abbrev jd : List TY := [.sl [.i .u8], .i .i64, .i .i64]
abbrev oU : List TY := [.i .i64, .i .i64, .i .i64, .b]
abbrev acl : List TY := [.sl [.i .i64, .s, .s, .s], .b]
abbrev uw : List TY := [.i .i64, .sl [.sl [.i .i64]]]
abbrev acm : List TY := [.sl [.i .i64, .s, .s, .s]]
abbrev acn : List TY := [.sl [.s, .s, .i .i64], .b]
abbrev Ct0:List CT:=[.d,.sl (.own none) [.d],.sl (.own none) [.d,.d],.sl (.own none) [.sl (.own none) [.d]],.sl (.own none) [.d],.d,.d,.d,.d,.d,.d,.d,.sl (.own none) [.d,.d],.d,.sl (.own none) [.d,.d,.d,.d,.d,.d],.d]
abbrev MR:List CT:=[.d,.sl (.own none) [.d],.sl (.own none) [.d,.d],.sl (.own none) [.sl (.own none) [.d]],.sl (.own none) [.d],.d,.d,.d,.d,.d,.d,.d,.sl (.own none) [.d,.d],.d,.sl (.own none) [.d,.d,.d,.d,.d,.d]]
abbrev Ct2:List CT:=[.d,.d,.d,.d,.d,.d,.d,.d,.sl (.own none) [.d,.d],.sl (.own none) [.d],.d,.d,.sl (.own none) [.d,.d],.d]
abbrev Ct3:List CT:=[.d,.d,.sl (.own none) [.d,.d,.d,.d],.d,.d,.sl (.own none) [.d,.d],.sl (.own none) [.d]]
abbrev OV:List CT:=[.d,.d,.sl (.own none) [.d,.d],.sl (.own none) [.d]]
abbrev Je:List CT:=[.d,.d,.sl (.own none) [.d,.d],.d]
abbrev Ct6:List CT:=[.d,.sl (.own none) [.d,.d,.d,.d]]
abbrev Ct7:List CT:=[.sl (.own none) [.d,.d,.d,.d],.d]
abbrev Ct8:List CT:=[.sl (.own none) [.d,.d,.d,.d]]
abbrev Ct9:List CT:=[.sl (.own none) [.d,.d,.d],.d]
abbrev apo:List CT:=[.d,.sl (.own none) [.d,.d]]
abbrev qN:List CT:=[.sl (.own none) [.d,.d,.d]]
abbrev oV:List CT:=[.sl (.own none) [.d,.d]]
abbrev awr:List CT:=[.sl (.own none) [.d],.d]
abbrev jP:List CT:=[.sl (.own none) [.d]]
abbrev aws:List CT:=[.d,.d,.d,.d,.d,.d]
def oc (d s:Nat):TO:=o1 d (.copy s)
def oi (d:Nat):TO:=o1 d (.idx .nil)
def o5 (e:ED) (d x:Nat):TO:=⟨false,[],[],.det 2 e,[d,x],some d,none⟩
def o6 (d s:Nat):TO:=⟨true,[],[],.det 1 (.copy s),[d],some d,none⟩
def o7 (a:Nat) (x y:DX) (d:Nat):TO:=⟨false,[],[],.pick a x y,[d],some d,none⟩
abbrev kV (n:Int):Value:=.int .i64 n
abbrev kO (n:Int):OY:=.c [.i .i64] [kV n]
abbrev kD (n:Int):DX:=.c (kV n)
abbrev kL (n:Int):ED:=.lit [.i .i64] [kV n]
abbrev iI:TY:=.i .i64
def zS (l:List (List TO)) (c:TC):TC:=.seq (.rg l.flatten) c
def zR (l:List (List TO)):TC:=.rg l.flatten
def zQ (a b:TC):TC:=.seq a b
def zC (x:Nat) (a b:TC):TC:=.cond (.t x) a b
def bH (a:Nat):List TO:=[o1 a (.lit [.b] [.bool false])]
def ai (a b:Nat):List TO:=[oc a b]
def mJ (a b:Nat):List TO:=[o1 a (.len b)]
def El (a b:Nat)(c:Int):List TO:=[o1 a (.data (.bin .gtr) [.t b,kD c])]
def zAe (a:Nat)(b:Int)(c:Nat):List TO:=[o1 a (.data (.bin .add) [kD b,.t c])]
def bN (a:Nat):List TO:=[o1 a (kL 0)]
def mf (a b c:Nat):List TO:=[o1 a (.data (.bin .lss) [.t b,.t c])]
def ik (a b c:Nat):List TO:=[o2 a (.copy b) c true]
def Bl (a b c:Nat):List TO:=[o7 a (.t b) (.c (.bool false)) c]
def zAj (a b:Nat)(c:Int):List TO:=[o1 a (.data (.bin .mul) [.t b,kD c])]
def wD (a b c:Nat):List TO:=[o1 a (.index b (.t c))]
def Em (a b c d:Nat):List TO:=[o1 a (.load b [(0,c)] 0 (.t d) 1 false)]
def zAn (a b:Nat):List TO:=[o1 a (.data (.conv .i64) [.t b])]
def wE (a b c:Nat):List TO:=[o1 a (.data (.bin .add) [.t b,.t c])]
def zAp (a b:Nat)(c:Int):List TO:=[o1 a (.data (.bin .add) [.t b,kD c])]
def zAq (a b:Nat)(c:Int):List TO:=[o1 a (.data (.bin .and) [.t b,kD c])]
def xC (a b:Nat):List TO:=[o1 a (.data (.bin .add) [.t b,kD 1])]
def ek (a b:Nat):List TO:=[o1 a (.a (.t b))]
def dZ (a:Nat):List TO:=[o1 a (.p0)]
def Tw (a b:Nat):List TO:=[o1 a (.same b)]
def Jf (a b:Nat):List TO:=[o1 a (.idx (.t b))]
def Bn (a b c d:Nat):List TO:=[o1 a (.load b [] c (.t d) 1 false)]
def Tx (a b c d e:Nat):List TO:=[o4 1 [a] (.store b [] c (.t d) (.t e))]
def XV (a b c:Nat):List TO:=[o1 a (.data (.bin .shr) [.t b,.c (.int .u64 (c))])]
def zAz (a b c:Nat):List TO:=[o1 a (.data (.bin .xor) [.t b,.t c])]
def zAA (a b:Nat)(c:Int):List TO:=[o1 a (.data (.bin .leq) [.t b,kD c])]
def zAB (a b c d e:Nat):List TO:=[⟨false,[],[],.call 2 a [.t b] (.mp 0),[c,d],(some e),none⟩]
def zAC (a b c:Nat):List TO:=[o1 a (.data (.bin .rem) [.t b,.t c])]
def zAD (a:Nat)(b:Int)(c d e:Nat):List TO:=[⟨false,[],[],.call 2 31 [.t a,kO b] (.mp 0),[c,d],(some e),none⟩]
def zAE (a b c:Nat):List TO:=[o1 a (.data (.bin .geq) [.t b,.t c])]
def zBa:List TO:=[o2 13 (.data (.bin .leq) [.t 11,.t 12]) 3 true]
def zBb (a:Nat):List TO:=[o1 a (.lit [.sl [.i .i64]] [.slice none 0 0])]
def zBc (a:Nat):List TO:=[o1 a (.sli [.i .i64] [])]
def dh (a b c:Nat):List TO:=[o5 (.copy a) b c]
def MS (a b:Nat):List TO:=[o1 a (.sli [.i .i64] [.t b])]
def yU (a b c d:Nat):List TO:=[o5 (.app (some a) b) c d]
def ku (a b:Nat):List TO:=[o6 a b]
def zBh (a b c d e:Nat):List TO:=[o1 a (.load b [(0,c)] d (.t e) 1 false)]
def zBi (a b c d e f:Nat):List TO:=[o4 1 [a,b] (.store c [(d,1)] 0 (.t e) (.t f))]
def XW (a b:Nat):List TO:=[o5 (.a (.c gF [kV 0,.slice none 0 0,.slice none 0 0,.slice none 0 0,.slice none 0 0,kV 0,kV 0,kV 0,kV 0,kV 0,kV 0,kV 0,.slice none 0 0,kV 0,.slice none 0 0])) a b]
def ug (a b c:Nat)(d:Int):List TO:=[o3 a b [.t c,kO 1,kO d]]
def jr (a b:Nat):List TO:=[o1 a (.data .not [.t b])]
def iL (a b c:Nat):List TO:=[o2 a (.copy b) c false]
def XX (a b:Nat)(c:Int)(d e f:Nat):List TO:=[⟨false,[],[],.call 1 a [.t b,kO 1,kO c] .no,[d],(some e),some (f,false)⟩]
def zBp (a b c:Nat):List TO:=[o2 a (.data .not [.t b]) c false]
def xD (a b c:Nat):List TO:=[o7 a (.c (.bool true)) (.t b) c]
def mX (a b c d:Nat):List TO:=[o4 2 [a,b] (.store c [] 0 .nil (.t d))]
def oW (a:Nat):List TO:=[oi a]
def zBt (a b c d:Nat):List TO:=[o1 a (.load b [] c (.t d) 1 true)]
def zBu (a b c d e f g h:Nat):List TO:=[⟨false,[a],[],.det 2 (.app (some b) c),[d,e,f,g],(some h),none⟩]
def zBv (a b c d e f g:Nat):List TO:=[o4 2 [a,b,c] (.store d [] e (.t f) (.t g))]
def XY (a:Nat):List TO:=[o1 a (.sli [.i .i64,.i .i64] [])]
def lQ (a b c d:Nat):List TO:=[o3 a b [.t c,.t d]]
def lS (a b c:Nat):List TO:=[o1 a (.load b [] 0 .nil c true)]
def zBz (a b c d e f g:Nat):List TO:=[⟨false,[a],[],.det 2 (.store b [] 0 .nil (.t c)),[d,e,f,g],none,none⟩]
def ic (a:Nat):List TO:=[o1 a (.lit [.b] [.bool true])]
def zBB (a b:Nat):List TO:=[o5 (.a (.c iG [kV 0,.slice none 0 0])) a b]
def zBC (a:Nat):List TO:=[o1 a (.build iG [])]
def zBD (a b:Nat):List TO:=[o5 (.a (.c Cu [kV 0,kV 0,.slice none 0 0,kV 0,.bool false,.slice none 0 0,.slice none 0 0])) a b]
def jH (a b c:Nat):List TO:=[o3 a b [.t c]]
def zDa (a b c d:Nat):List TO:=[o5 (.ext a 0 b) c d]
def mY (a b c:Nat):List TO:=[o1 a (.ext b c 1)]
def zDc (a b:Nat)(c:Int):List TO:=[o1 a (.data (.bin .quo) [.t b,kD c])]
def uh (a:Nat)(b:Int):List TO:=[o1 a (kL b)]
def zDe (a b:Nat)(c:Int):List TO:=[o1 a (.data (.bin .neq) [.t b,kD c])]
def XZ (a b c d:Nat):List TO:=[⟨false,[],[],.call 2 a [.t 0,.t b] (.mp 0),[c,0],(some d),none⟩]
def zDg (a b:Nat):List TO:=[o5 (.a (.c jq [kV 0,kV 0,kV 0,kV 0])) a b]
def jW (a b c:Nat):List TO:=[o4 1 [a] (.store b [] 0 .nil (.t c))]
def yV (a b:Nat)(c:Int):List TO:=[o1 a (.data (.bin .eql) [.t b,kD c])]
def eF (a b c:Nat):List TO:=[o1 a (.load b [] 0 .nil c false)]
def zDk (a b:Nat):List TO:=[o5 (.a (.c jf [kV 0,kV 0,.slice none 0 0,kV 0])) a b]
def OW (a b c d:Nat):List TO:=[o4 2 [1,a] (.store 1 [] b (.t c) (.t d))]
def zDn (a b c d e f:Nat):List TO:=[⟨false,[],[],.det 3 (.app (some a) b),[c,d,e],(some f),none⟩]
def zDo (a b c d e:Nat):List TO:=[o1 a (.load b [] c (.t d) e false)]
def mZ (a b:Nat):List TO:=[o2 a (.idx .nil) b true]
def rZ (a b c d e:Nat):List TO:=[o2 a (.load b [] c (.t d) 1 false) e true]
def Jg (a b c:Nat):List TO:=[o2 a (.data (.bin .sub) [.t b,kD 1]) c true]
def zDs (a b c d e f:Nat):List TO:=[⟨false,[],[],.call 1 a [.t b,kO 0,.t c] .no,[d],(some e),some (f,true)⟩]
def zDt (a b c d:Nat):List TO:=[o2 a (.data (.bin .lss) [.t b,.t c]) d true]
def Bo (a b:Nat):List TO:=[o2 a (.idx .nil) b false]
def OZ (a b c d e:Nat):List TO:=[o2 a (.load b [] c (.t d) 1 false) e false]
def zDw (a b c d:Nat):List TO:=[o2 a (.data (.bin .eql) [.t b,.t c]) d false]
def zDx (a b c d e:Nat):List TO:=[⟨false,[],[],.pick a (.t b) (.c (.bool false)),[c],(some d),some (e,false)⟩]
def zDy (a b c d e:Nat):List TO:=[o1 a (.load b [(0,c)] 0 (.t d) e false)]
def Jh (a b:Nat)(c:Int)(d:Nat):List TO:=[o2 a (.data (.bin .gtr) [.t b,kD c]) d false]
def Cv (a b c d:Nat):List TO:=[o2 a (.index b (.t c)) d true]
def zDB (a b c d e f:Nat):List TO:=[o2 a (.load b [(0,c)] 0 (.t d) e false) f true]
def xE (a b c d e f:Nat):List TO:=[⟨false,[],[],.call 1 a [.t b,.t c] .no,[d],(some e),some (f,true)⟩]
def zDD (a b c:Nat):List TO:=[o2 a (.data .not [.t b]) c true]
def X0 (a b c:Nat):List TO:=[o1 a (.data (.bin .neq) [.t b,.t c])]
def zEa (a b c d:Nat):List TO:=[o3 a b [.t c,kO 0,.t d]]
def zEb (a b c d:Nat):List TO:=[o2 a (.index b (.t c)) d false]
def zEc (a b c d e:Nat):List TO:=[o2 a (.load b [(0,c)] 0 (.t d) 1 false) e false]
def MU (a b c d:Nat):List TO:=[o2 a (.data (.bin .neq) [.t b,.t c]) d false]
def Bp (a b c:Nat):List TO:=[o1 a (.data (.bin .eql) [.t b,.t c])]
def zEf (a:Nat):List TO:=[o1 a (kL (-1))]
def zEg (a b c d:Nat):List TO:=[o2 a (.data (.bin .eql) [.t b,.t c]) d true]
def zEh (a b c:Nat):List TO:=[o1 a (.eqA [.i,.i,.i,.i] (.t b) (.t c) false)]
def O0 (a b c:Nat):List TO:=[o2 a (.data (.bin .eql) [.t b,kD 0]) c true]
def Ty (a b c d e f:Nat):List TO:=[o2 a (.load b [] c (.t d) e false) f true]
def F7 (a b c d e f:Nat):List TO:=[⟨false,[],[],.call 1 a [.t b,.t c] .no,[d],(some e),some (f,false)⟩]
def zEm (a b c:Nat):List TO:=[o2 a (.data (.bin .sub) [.t b,kD 1]) c false]
def zEn (a b c d e f:Nat):List TO:=[⟨false,[],[],.call 1 a [.t b,kO 0,.t c] .no,[d],(some e),some (f,false)⟩]
def F8 (a b:Nat):List TO:=[o1 a (.data (.bin .sub) [.t b,kD 1])]
def zEp (a b c d:Nat):List TO:=[o2 a (.data (.bin .neq) [.t b,.t c]) d true]
def zEq (a b:Nat):List TO:=[o5 (.a (.c Ty7 [kV 0,kV 0,kV 0,kV 0,kV 0,kV 0,kV 0,.slice none 0 0,kV 0])) a b]
def Bq (a b c:Nat):List TO:=[o2 a (.idx (.t b)) c true]
def O1 (a b c d e:Nat):List TO:=[o2 a (.load b [(0,c)] 0 (.t d) 1 false) e true]
def zEt (a b:Nat)(c:Int)(d:Nat):List TO:=[o2 a (.data (.bin .add) [.t b,kD c]) d true]
def zEu (a b c d:Nat):List TO:=[o2 a (.load b [] 0 .nil c false) d true]
def zEv (a b:Nat)(c:Int)(d e f:Nat):List TO:=[⟨false,[],[],.call 1 a [.t b,kO c,kO 100000] .no,[d],(some e),some (f,true)⟩]
def Ji (a b c:Nat):List TO:=[o2 a (.len b) c false]
def zEx (a b:Nat)(c d:Int)(e f g:Nat):List TO:=[⟨false,[],[],.call 1 a [.t b,kO c,kO d] .no,[e],(some f),some (g,false)⟩]
def MV (a b c d:Nat):List TO:=[o2 a (.load b [] 0 .nil c false) d false]
def zEz:List TO:=[o1 15 (.build Ty8 [(0,.t 12),(1,.t 13),(5,.t 14)])]
def zEA (a b c d e f:Nat):List TO:=[o4 2 [a,b] (.store c [] d (.t e) (.t f))]
def zEB (a b c:Nat):List TO:=[o1 a (.build [.i .i64,.i .i64] [(0,.t b),(1,.t c)])]
def zEC (a b:Nat):List TO:=[o1 a (.sli [.i .i64,.i .i64] [.t b])]
def zED (a b c d e:Nat):List TO:=[o1 a (.load b [(c,d)] 0 (.t e) 1 false)]
def zEE:List TO:=[⟨false,[22],[],.det 2 (.build Ty7 [(0,.t 20),(4,.t 21),(5,.t 22)]),[23,22,22,7],(some 23),none⟩]
def zGa:List TO:=[o4 2 [0,23,12,15] (.store 0 [] 5 (.t 25) (.t 23))]
def zGb (a b:Nat):List TO:=[o5 (.a (.c [.i .i64,.i .i64] [kV 0,kV 0])) a b]
def zGc (a:Nat):List TO:=[o1 a (.lit [.sl [.i .i64,.i .i64]] [.slice none 0 0])]
def zGd (a b c d:Nat):List TO:=[o4 2 [0,a,16,19,24,27,48,b] (.store 0 [] 2 (.t c) (.t d))]
def zGe (a b c:Nat)(d:Int)(e f g:Nat):List TO:=[⟨false,[],[],.call 2 a [.t b,.t c,kO d] (.mp 0),[e,f],(some g),none⟩]
def Jj (a b c d e:Nat):List TO:=[⟨false,[],[],.call 1 a [.t b] .no,[c],(some d),some (e,false)⟩]
def zGg (a b c d e:Nat):List TO:=[o3 a b [.t c,.t d,.t e]]
def zGh (a b c:Nat):List TO:=[o5 (.ext a 0 1) b c]
def zGi (a b c d e f:Nat):List TO:=[⟨false,[],[],.call 2 77 [.t a,.t b,.t c] (.mp 0),[d,e],(some f),none⟩]
def zGj (a b c d e:Nat):List TO:=[⟨false,[],[a],.det 1 (.load b [] 0 .nil c false),[d],(some e),none⟩]
def zGk (a b c:Nat):List TO:=[⟨false,[],[a],.det 1 (.idx .nil),[b],(some c),none⟩]
def zGm (a b c d e:Nat):List TO:=[⟨false,[],[a],.det 1 (.load 3 [] b (.t c) 1 false),[d],(some e),none⟩]
def zGn (a b c d e:Nat):List TO:=[⟨false,[],[a],.det 1 (.index b (.t c)),[d],(some e),none⟩]
def zGo (a b c d e f g:Nat):List TO:=[⟨false,[],[a],.det 1 (.load b [(0,c)] 0 (.t d) e false),[f],(some g),none⟩]
def zGp (a b c d e f g h:Nat):List TO:=[⟨false,[],[],.call 3 79 [.t a,.t b,.t c,.t d] (.mp 0),[e,f,g],(some h),none⟩]
def zGq (a b:Nat):List TO:=[o5 (.a (.c xB [kV 0,.slice none 0 0])) a b]
def zGr (a b:Nat):List TO:=[o5 (.a (.c oU [kV 0,kV 0,kV 0,.bool false])) a b]
def zGs (a b c d:Nat):List TO:=[o2 a (.data (.bin .geq) [.t b,.t c]) d true]
def zGt (a b:Nat):List TO:=[o5 (.a (.c uw [kV 0,.slice none 0 0])) a b]
def zGu (a b c d e f:Nat):List TO:=[⟨false,[a],[],.det 2 (.store b [] 0 .nil (.t c)),[d,e,f],none,none⟩]
def zGv (a b c d e:Nat):List TO:=[⟨true,[a],[],.det 1 (.copy b),[c,d],(some e),none⟩]
def X3 (a b c d e:Nat):List TO:=[⟨false,[],[],.det 2 (.copy a),[b,c,d],(some e),none⟩]
def zGx (a b:Nat)(c:Int):List TO:=[o1 a (.data (.bin .lss) [.t b,kD c])]
def zGy (a b:Nat):List TO:=[o1 a (.index b (kD 0))]
def zGz (a b c d:Nat):List TO:=[⟨true,[],[],.det 1 (.copy a),[b],(some c),some (d,true)⟩]
def X4 (a b c:Nat):List TO:=[o2 a (.len b) c true]
def zGB (a b c:Nat)(d e:Int):List TO:=[o3 a b [.t c,kO d,kO e]]
def zGC (a b c d e:Nat):List TO:=[⟨false,[],[],.call 1 a [.t b] .no,[c],(some d),some (e,true)⟩]
def zGD (a b c d:Nat):List TO:=[o2 a (.data (.bin .gtr) [.t b,.t c]) d true]
def zGE (a:Nat):List TO:=[o2 a (.load 6 [] 0 .nil 2 true) 9 true]
def zHa (a:Nat):List TO:=[o1 a (.build lh [])]
def zHb (a b c d e f:Nat):List TO:=[o2 a (.load b [] c (.t d) e false) f false]
def MW (a b c:Nat):List TO:=[o2 a (.idx (.t b)) c false]
def zHd (a b:Nat):List TO:=[o5 (.a (.c lh [kV 0,.bool false,.slice none 0 0,.slice none 0 0])) a b]
def zHe (a b c d e f:Nat):List TO:=[o2 a (.load b [(0,c)] d (.t e) 1 false) f true]
def zHf (a b:Nat):List TO:=[o1 a (.sli oU [.t b])]
def zHg (a b c:Nat):List TO:=[o1 a (.data (.bin .gtr) [.t b,.t c])]
def zHh (a b c d e f:Nat):List TO:=[⟨false,[],[a],.call 1 b [.t c,.t d] .no,[e],(some f),none⟩]
def zHi (a b c d e f:Nat):List TO:=[⟨false,[],[a],.det b (.copy c),[d,e],(some f),none⟩]
def zHj (a b c d e f:Nat):List TO:=[⟨false,[],[a],.det 2 (.ext b 0 c),[d,e],(some f),none⟩]
def zHk (a b c d e:Nat):List TO:=[⟨false,[],[a],.det 1 (.ext b c 1),[d],(some e),none⟩]
def zHm (a b c d e:Nat):List TO:=[⟨false,[],[a],.det 1 (.load b [] 0 .nil c true),[d],(some e),none⟩]
def zHn (a:Nat):List TO:=[o1 a (.build [.i .i64,.i .i64] [])]
def zHo:List TO:=[⟨false,[],[3000004001],.det 1 (.lit [.b] [.bool false]),[6,4],(some 6),none⟩]
def zHp (a b:Nat):List TO:=[o1 a (.data (.bin .geq) [.t b,kD 0])]
def zHq (a b c:Nat):List TO:=[⟨false,[],[4],.det 1 (.idx (.t a)),[b],(some c),none⟩]
def zHr (a b c d e f:Nat):List TO:=[⟨false,[],[a,b],.det 1 (.load c [] 0 .nil d false),[e],(some f),none⟩]
def zHs (a b c d e f g:Nat):List TO:=[⟨false,[],[a,b],.call 1 c [.t d,.t e] .no,[f],(some g),none⟩]
def zHt (a b c d e f:Nat):List TO:=[⟨false,[],[a,b],.det 2 (.copy c),[d,e],(some f),none⟩]
def zHu (a b c d e f g:Nat):List TO:=[⟨false,[],[a,b],.det 1 (.ext c d e),[f],(some g),none⟩]
def zHv (a b c d:Nat):List TO:=[⟨true,[],[],.det 1 (.copy a),[b],(some c),some (d,false)⟩]
def zHw (a b c:Nat):List TO:=[⟨false,[a],[],.det 1 (.copy b),[7,c],(some 7),none⟩]
def zHx (a:Nat):List TO:=[o1 a (.lit Tv [.slice none 0 0])]
def zHy (a b c d e f:Nat):List TO:=[⟨false,[a],[],.det 2 (.copy b),[c,d,e],(some f),none⟩]
def zHz (a:Int)(b c d:Nat):List TO:=[o5 (.build xA [(0,kO a),(b,.t c)]) d 1000000001]
def zHA (a b c:Nat):List TO:=[o5 (.sli xA [.t a]) b c]
def zHB (a b c d:Nat):List TO:=[⟨false,[],[1000000026,1000000027],.det 2 (.ext 106 a b),[c,106],(some d),none⟩]
def zHC (a b:Nat):List TO:=[o1 a (.data (.bin .rem) [.t b,kD 128])]
def yX (a b:Nat):List TO:=[o1 a (.data (.conv .u8) [.t b])]
def zHE (a b:Nat):List TO:=[o1 a (.sli [.i .u8] [.t b])]
def X5 (a b:Nat):List TO:=[o1 a (.bytes b)]
def r_ (a b:Nat):List TO:=[o1 a (.data .slen [.t b])]
def zIc (a b:Nat)(c:Int)(d:Nat):List TO:=[o2 a (.data (.bin .neq) [.t b,kD c]) d false]
def zId (a:Nat):List TO:=[o1 a (.lit [.i .u32] [.int .u32 (0)])]
def zIe (a b c:Nat):List TO:=[o1 a (.data .sidx [.t b,.t c])]
def zIf (a b:Nat):List TO:=[o1 a (.data (.bin .eql) [.t b,.c (.int .u32 (1))])]
def zIg (a b:Nat):List TO:=[o1 a (.data (.bin .xor) [.t b,.c (.int .u32 (3558460437))])]
def zIh (a:Nat):List TO:=[o3 4 a [.c [.i .u32] [.int .u32 (4294967295)],.t 3]]
def zIi (a:Nat):List TO:=[o1 a (.lit acm [.slice none 0 0])]
def zIj (a b c:Nat):List TO:=[o2 a (.data .slen [.t b]) c false]
def Br (a b:Nat):List TO:=[o5 (.a (.c [.sl [.s,.s,.i .i64]] [.slice none 0 0])) a b]
def MX (a:Nat):List TO:=[o1 a (.build [.sl [.s,.s,.i .i64]] [])]
def zIn (a b:Nat):List TO:=[o1 a (.sli [.s,.s,.i .i64] [.t b])]
def zIo (a b c d e f g h:Nat):List TO:=[⟨false,[a],[],.det 2 (.store b [] 0 .nil (.t c)),[d,e,f,g,h],none,none⟩]
def O3 (a b c d:Nat):List TO:=[⟨false,[],[a],.det 1 (.load b [] 0 .nil 1 true),[c],(some d),none⟩]
def zIq (a b c d:Nat):List TO:=[o1 a (.data (.ssl true true) [.t b,.t c,.t d])]
def zIr (a b c:Nat):List TO:=[o2 a (.same b) c false]
def zIs (a:Nat):List TO:=[o4 1 [0] (.store 0 [] 2 (.t a) (.c [.b] [.bool true]))]
def zIt (a b c:Nat):List TO:=[o2 a (.data .slen [.t b]) c true]
def zIu (a b:Nat):List TO:=[o1 a (.build [.s,.i .i64,.b] [(0,.t b)])]
def zIv (a b c d:Nat):List TO:=[⟨false,[],[],.call 2 69 [.t a] (.mp 0),[b,c],(some d),some (2,false)⟩]
def zIw (a b c d:Nat):List TO:=[o2 a (.load b [] 0 .nil c true) d false]
def zIx (a b c:Nat):List TO:=[o2 a (.eqA [.i,.i,.i,.i] (.t b) (.t c) false) 3 true]
def zIy (a b:Nat):List TO:=[o5 (.a (.c xA [kV 0,kV 0,kV 0,kV 0,kV 0,kV 0,kV 0,.bool false,.slice none 0 0,.slice none 0 0,kV 0,kV 0,.slice none 0 0,kV 0])) a b]
def O4 (a b c d:Nat):List TO:=[⟨false,[],[a],.det 1 (.copy b),[c],(some d),none⟩]
def zIA (a:Nat)(b:Int)(c d:Nat):List TO:=[⟨false,[],[1000000024],.det 1 (.index a (kD b)),[c],(some d),none⟩]
def zIB (a:Nat)(b:Int)(c d:Nat):List TO:=[⟨false,[],[1000000024],.det 1 (.data (.bin .rem) [.t a,kD b]),[c],(some d),none⟩]
def zIC (a b c d e:Nat):List TO:=[⟨false,[],[],.det 2 (.copy a),[b,c],(some d),some (e,true)⟩]
def zID (a b c d e:Nat):List TO:=[⟨false,[],[],.det 2 (.copy a),[b,c,d],(some e),some (30,false)⟩]
def bV (a b c:Nat):List TO:=oW a++Bn (a+1) b c a
def dC (a b c:Nat):List TO:=ai a b++ai (a+1) c
def zJb (a b:Nat):List TO:=ai a b++xC (a+1) a
def uH (a b c d:Nat):List TO:=zBp a b c++xD d a (a+1)
def wF (a b c d:Nat):List TO:=mZ a b++rZ (a+1) c d a b
def qZ (a b c:Nat):List TO:=mJ a b++mf (a+1) c a
def ui (a b c d:Nat):List TO:=wD a b c++Em (a+1) b d a
def xF (a b:Nat):List TO:=Tw a b++Jf (a+1) a
def uI (a b:Nat):List TO:=ai a b++ai (a+1) (b+1)
def lT (a b c:Nat):List TO:=Bl a b c++ai (c+1) c
def gJ (a b c:Nat):List TO:=zJb a b++ai c (a+1)
def uJ (a b c d e:Nat):List TO:=wD a b c++zDy (a+1) b d a e
def qi (a b c d:Nat):List TO:=Bo a b++OZ (a+1) c d a b
def qj (a b c d e:Nat):List TO:=lQ a b c d++dh a e a
def X6 (a b c:Nat):List TO:=wD a b c++Jf (a+1) a
def Cw (a b:Nat):List TO:=jr a b++ai (a+1) a
def zJq (a b c d:Nat):List TO:=mY a b c++mY (a+1) b d
def oh (a b c d:Nat):List TO:=uH a b c d++ai (a+2) (a+1)
def Bt (a b c d e f:Nat):List TO:=lS a b c++zBz a d a e a a f
def F9 (a b c d e:Nat):List TO:=mZ a b++rZ (a+1) c d a e
def pE (a b c d e:Nat):List TO:=Bo a b++OZ (a+1) c d a e
def F_ (a b c d e:Nat):List TO:=yU a b c d++dh c e c
def lm (a b c d:Nat):List TO:=oW a++Bn (a+1) b c d
def X7 (a b c d:Nat):List TO:=jH a b c++dh a d a
def xG (a b c:Nat):List TO:=oW a++zBt (a+1) b c a
def xH (a b c d:Nat):List TO:=mX a b c d++ai (a+1) (b+1)
def zJA (a b c d:Nat):List TO:=zGh a b c++mY (b+1) a d
def yY (a b c d e:Nat):List TO:=Tw a b++zAB c d (a+1) e (a+1)
def ql (a b c d:Nat):List TO:=Bl a b c++ai d c
def nO (a b:Nat):List TO:=ek a b++bH (a+1)
def Jk (a b c d:Nat):List TO:=X6 a b c++Em (a+2) b d (a+1)
def Jl (a b c:Nat):List TO:=dC a b c++qZ (a+2) (a+1) a
def Ga (a b c d:Nat):List TO:=ai a b++bV (a+1) c d
def Jm (a b c d e:Nat):List TO:=zJq a b c d++uI e a
def Cx (a b c d:Nat):List TO:=dh a b c++dh b d b
def MZ (a b c:Nat):List TO:=dC a b c++mf (a+2) a (a+1)
def En (a b c d e f:Nat):List TO:=zDx a b c d e++xD f c (c+1)
def zKg (a b c d:Nat):List TO:=jH a b c++wE (a+1) d a
def Eo (a b c d:Nat):List TO:=xF a b++Bn (a+2) c d (a+1)
def O5 (a b c d e:Nat):List TO:=X6 a b c++zBh (a+2) b d e (a+1)
def zKj (a b c d:Nat):List TO:=zGk a b c++zGm a d b (b+1) (b+1)
def O6 (a b c d:Nat):List TO:=dC a b c++ui (a+2) a (a+1) d
def zKm (a b c d e f g:Nat):List TO:=zHi a b c d e f++zHj a d g (c+1) d (c+1)
def zKn (a b c d e:Nat):List TO:=zJA a b c d++dh b e b
def Jn (a b c:Nat):List TO:=xD a b c++ai (c+1) c
def xI (a b:Nat)(c:Int)(d:Nat):List TO:=yV a b c++ai d a
def xJ (a b c d e:Nat):List TO:=oW a++Tx b c d a e
def xK (a b c d:Nat):List TO:=bV a b c++ai (a+2) d
def Jo (a b c d e:Nat):List TO:=eF a b c++lQ (a+1) d e a
def Tz (a b c d e:Nat):List TO:=dC a b c++uJ (a+2) a (a+1) d e
def yZ (a b c:Nat):List TO:=ai a b++ai c a
def M0 (a:Nat):List TO:=oW a++Jf (a+1) a
def M3 (a b c d:Nat):List TO:=eF a b c++jH (a+1) d a
def M4 (a b c d:Nat):List TO:=oW a++zDo (a+1) b c a d
def zKy (a b c d e f g h:Nat):List TO:=zKm a b c d e f g++zHk a d h (c+2) (c+2)
def Bu (a b c d e:Nat):List TO:=bV a b c++bV (a+2) d e
def O7 (a b c d e:Nat):List TO:=Ga a b c d++qZ e (a+2) a
def O8 (a b c d e f g:Nat):List TO:=X7 a b c d++Jm (a+1) d e f g
def O9 (a b:Nat):List TO:=zJb a b++ai b (a+1)
def TA (a b c d e:Nat):List TO:=zKn a b c d e++ai (e+1) (b+1)
def Bv (a b c d:Nat):List TO:=mX a b c d++bH (a+1)
def TB (a b:Nat):List TO:=zBc a++dh a b a
def TD (a b:Nat)(c:Int):List TO:=yV a b c++ai (b+1) a
def TF (a b c:Nat):List TO:=bV a b c++mJ (a+2) (a+1)
def TG (a b c d:Nat):List TO:=xF a b++zBt (a+2) c d (a+1)
def TH (a b c d e:Nat):List TO:=bV a b c++zKg (a+2) d (a+1) e
def Gb (a b c d:Nat):List TO:=Cw a b++iL (a+2) c d
def Gc (a b c d e f:Nat):List TO:=ai a b++F9 (a+1) c d e f
def X8 (a b c:Nat):List TO:=ai a b++wE (a+1) c a
def zLi (a b c d e f:Nat):List TO:=qj a b c d e++zDa e f (a+1) e
def X9 (a b c d e f:Nat):List TO:=wF a b c d++wF (a+2) b e f
def X_ (a b c d e:Nat):List TO:=zEC a b++F_ c a (a+1) d e
def Ya (a b c d e f:Nat):List TO:=wD a b c++zED (a+1) d e f a
def Yb (a b c d:Nat):List TO:=dZ a++zAB b c (a+1) d (a+1)
def M5 (a b c:Nat):List TO:=ku a b++ai (a+1) c
def M6 (a b c d:Nat):List TO:=ai a b++ik (a+1) c d
def zLq (a b c d e f g:Nat):List TO:=oW a++zBv b c d e f a g
def O_ (a b c d e f g h i j m:Nat):List TO:=zBu a b c d e f g h++zLq (d+1) i d a j m d
def Gd (a b c:Nat):List TO:=ai a b++mJ (a+1) c
def zLt (a b c d e:Nat):List TO:=iL a b c++zEb (a+1) d a e
def zLu (a b c d e:Nat):List TO:=zEg a b c d++lT e a (a+1)
def zLv (a b c d e f:Nat):List TO:=wD a b c++zDy (a+1) d e a f
abbrev Zt0:=Int × (Int × List Int × List (Int × Int) × List (List Int) × List Int × Int × Int × Int × Int × Int × Int × Int × List (Int × Int) × Int × List (Int × Int × Int × Int × Int × Int))
abbrev Zt1:=Int × List Int × List (Int × Int) × List (List Int) × List Int × Int × Int × Int × Int × Int × Int × Int × List (Int × Int) × Int × List (Int × Int × Int × Int × Int × Int) × Int
abbrev rf:=Int × List Int × List (Int × Int) × List (List Int) × List Int × Int × Int × Int × Int × Int × Int × Int × List (Int × Int) × Int × List (Int × Int × Int × Int × Int × Int)
abbrev Zt3:=Int × Int × List (Int × Int × Int × Int × Int × Int × Int × Bool × List (Int × Int) × List Int × Int × Int × List (Int × Int) × Int)
abbrev TI:=Int × Int × Int × Int × Int × Int × Int × Bool × (List (Int × Int)) × (List Int) × Int × Int × (List (Int × Int)) × Int
abbrev Zt5:=Int × Int × Int × Int × Int × Int × Int × Bool × List (Int × Int) × List Int × Int × Int × List (Int × Int) × Int
abbrev Zt6:=Int × Int × (List (Int × Int × Int × Bool)) × Int × Bool × (List (Int × Int)) × (List Int)
abbrev Zt7:=Int × Int × List (Int × Int × Int × Bool) × Int × Bool × List (Int × Int) × List Int
abbrev Zt8:=Int × List (Int × Int × Int × Bool) × Bool
abbrev wG:=Int × Bool × List (Int × Int) × List Int
abbrev VV:=Int × ByteArray × ByteArray × ByteArray
abbrev mK:=Int × List (Int × Int × Int × Bool)
abbrev zO:=Int × Int × List (Int × Int) × Int
abbrev VW:=Int × Int × Int × Int × Int × Int
abbrev nZ:=Int × Int × Int × Bool
abbrev aco:=Int × List (Int × Int)
abbrev BZ:=Int × Int × Int × Int
abbrev H6:=Int × List (List Int)
abbrev bG:=Int × Int
abbrev zK (E:aN) (K:FuncId) (s:aO) (c:TC) (h:Nat) (j:Ou) (l:List Nat):Prop:=apk PG E K s (c.ht h) j=some (c.wc E,l)
end Go.Fw
namespace Go.Fw
noncomputable section
def ate:TC:=
 (zS [bH 2] (zS [Gd 3 0 3,El 5 4 1048576,ai 2 5] .ret))
def atf:aO:=⟨[.rd false jP],(.one false [.d])⟩
def atg:aN:=aG []
def ath (n:Nat):List (Int)->Option ((Bool) × Unit):=aI n atg ate [[.sl [.i .u8]]] [.b] [] [2] .no
def aid:=ath BIG
def ati:TSp:=⟨atf,[[.sl [.i .u8]]],[.b],[],Ou.j .no,aid⟩
theorem aB8:zK atg 4 atf ate 6 .no [2]:=by show _=_;kernel_rfl
theorem aAa:ati.Ok PG 4:=aV (ax PG) aB8 (by kernel_rfl)
theorem aB9 (n) (a0):ath n a0 = some (decide (1048576<(a0.length:Int)),()):=by kernel_rfl
def adO:TC:=
 (zS [[o1 2 (.nl)]] (zS [Gd 5 0 5,zAe 7 13501 6,ai 3 7] (zQ (.join [⟨3,[.i .i64],false⟩] 268435224 none (zS [bN 4] (.block 0 (.loop [⟨3,[.i .i64],false⟩,⟨4,[.i .i64],false⟩] 268435224 (zQ (.seq (.join [⟨15,[.b],false⟩] 65280 none (zR [dC 8 4 0,qZ 10 9 8,M6 12 11 4 4,[o2 14 (.data (.bin .lss) [.t 13,kD 4000]) 4 true],Bl 12 14 15])) (zC 15 .skip (.exit 0))) (zQ (.block 1 (zR [ai 18 3,zAj 19 18 131,O6 20 0 4 1,zAn 24 23,wE 25 19 24,zAp 26 25 7,zAq 27 26 1073741823,ai 3 27])) (zR [gJ 16 4 4]))))))) (zS [dC 28 0 3,[o1 30 (.build jd [(0,.t 28),(2,.t 29)])],ek 31 30,[⟨true,[],[],.det 2 (.copy 31),[2,31],(some 2),none⟩]] .ret))))
def adP:aO:=⟨[.rd false jP],(.bx [.sl (.ro [0]) [.d],.d,.d])⟩
def adQ:aN:=aG []
def Pb (n:Nat):List (Int)->Option ((List Int × Int × Int) × Unit):=aI n adQ adO [[.sl [.i .u8]]] jd [] [2] .no
def Bw:=Pb BIG
def Pd:TSp:=⟨adP,[[.sl [.i .u8]]],jd,[],Ou.j .no,Bw⟩
theorem atj:zK adQ 17 adP adO 32 .no [2]:=by show _=_;kernel_rfl
theorem Yc:Pd.Ok PG 17:=aV (ax PG) atj (by kernel_rfl)
theorem atl (n) (a0):Pb n a0 = (aU n (X:=Int × Int) (B:=Int) (fun self1 x0=> (bif decide (x0.2<(a0.length:Int)) then some (decide (x0.2<4000)) else some false).bind fun x2=> bif x2 then bnd a0.length x0.2 fun n3=> a0[n3]?.bind fun y4=> self1 (bits .and .i64 (IntKind.wrap .i64 ((IntKind.wrap .i64 ((IntKind.wrap .i64 (x0.1*(131:Int)))+(IntKind.wrap .i64 (y4))))+7)) (1073741823:Int),IntKind.wrap .i64 (x0.2+1)) else some x0.1) (IntKind.wrap .i64 ((13501:Int)+(a0.length:Int)),(0:Int))).bind fun x5=> some ((a0,(0:Int),x5),()):=by kernel_rfl
def Yd:TC:=
 (zS [bN 2] (zS [dZ 4,dZ 5,Tw 6 5,Jf 7 6,Bn 8 0 2 7,zAj 9 8 6364136223846793005,zAp 10 9 1442695040888963407,xF 11 4,Tx 0 0 2 12 10] (zS [dZ 13,dZ 18,Eo 14 13 0 2,XV 17 16 33,Eo 19 18 0 2,XV 22 21 45,zAz 23 17 22,zAq 24 23 255,ai 3 24] (zQ (.join [⟨3,[.i .i64],false⟩,⟨0,jd,false⟩] 144115188042301449 none (zS [dZ 25,dZ 29,Eo 26 25 0 1,Eo 30 29 0 0,qZ 33 32 28] (zC 34 (zS [ai 35 3,dZ 36,dZ 40,Eo 37 36 0 0,Eo 41 40 0 1,ui 44 39 43 1,zAn 46 45,wE 47 35 46,zAq 48 47 255,ai 3 48] (zR [dZ 49,dZ 50,Eo 51 50 0 1,xC 54 53,xF 55 49,Tx 0 0 1 56 54])) .skip))) (zS [yZ 57 3 2] .ret)))))
def Ye:aO:=⟨[.mp [.sl (.ro []) [.d],.d,.d]],(.one false [.d])⟩
def Yf:aN:=aG []
def KE (n:Nat):(List Int × Int × Int)->Option ((Int) × List Int × Int × Int):=aI n Yf Yd [jd] [.i .i64] jd [2] (.mp 0)
def l5:=KE BIG
def KF:TSp:=⟨Ye,[jd],[.i .i64],jd,Ou.j (.mp 0),l5⟩
theorem apq:zK Yf 30 Ye Yd 58 (.mp 0) [2]:=by show _=_;kernel_rfl
theorem TJ:KF.Ok PG 30:=aV (ax PG) apq (by kernel_rfl)
theorem apr (n) (a0):KE n a0 = bif decide ((33:Int)<0) then none else bif decide ((45:Int)<0) then none else (bif decide (a0.2.1<(a0.1.length:Int)) then bnd a0.1.length a0.2.1 fun n0=> a0.1[n0]?.bind fun y1=> some (bits .and .i64 (IntKind.wrap .i64 ((bits .and .i64 (bits .xor .i64 (Int.fdiv (IntKind.wrap .i64 ((IntKind.wrap .i64 (a0.2.2*(6364136223846793005:Int)))+1442695040888963407)) (2 ^ (Nat.min (Int.toNat (33:Int)) (IntKind.bits .i64)))) (Int.fdiv (IntKind.wrap .i64 ((IntKind.wrap .i64 (a0.2.2*(6364136223846793005:Int)))+1442695040888963407)) (2 ^ (Nat.min (Int.toNat (45:Int)) (IntKind.bits .i64))))) (255:Int))+(IntKind.wrap .i64 (y1)))) (255:Int),(a0.1,IntKind.wrap .i64 (a0.2.1+1),IntKind.wrap .i64 ((IntKind.wrap .i64 (a0.2.2*(6364136223846793005:Int)))+1442695040888963407))) else some (bits .and .i64 (bits .xor .i64 (Int.fdiv (IntKind.wrap .i64 ((IntKind.wrap .i64 (a0.2.2*(6364136223846793005:Int)))+1442695040888963407)) (2 ^ (Nat.min (Int.toNat (33:Int)) (IntKind.bits .i64)))) (Int.fdiv (IntKind.wrap .i64 ((IntKind.wrap .i64 (a0.2.2*(6364136223846793005:Int)))+1442695040888963407)) (2 ^ (Nat.min (Int.toNat (45:Int)) (IntKind.bits .i64))))) (255:Int),(a0.1,a0.2.1,IntKind.wrap .i64 ((IntKind.wrap .i64 (a0.2.2*(6364136223846793005:Int)))+1442695040888963407)))).bind fun x2=> some (x2.1,x2.2):=by kernel_rfl
def TK:TC:=
 (zS [bN 4] (zQ (zS [ai 9 1,zAA 10 9 0] (zC 10 (zS [bN 4] .ret) .skip)) (zQ (zS [ai 11 1,zAA 12 11 256] (zC 12 (zS [Yb 13 30 0 0,ai 15 1,zAC 16 14 15,ai 4 16] .ret) .skip)) (zS [Yb 17 30 0 0,ai 5 18] (zS [Yb 19 30 0 0,ai 6 20] (zS [Yb 21 30 0 0,ai 7 22] (zS [Yb 23 30 0 0,ai 8 24] (zS [ai 25 5,zAj 26 25 16777216,ai 27 6,zAj 28 27 65536,wE 29 26 28,ai 30 7,zAj 31 30 256,wE 32 29 31,X8 33 8 32,ai 35 1,zAC 36 34 35,ai 4 36] .ret))))))))
def TL:aO:=⟨[.mp [.sl (.ro []) [.d],.d,.d],.rd false [.d]],(.one false [.d])⟩
def TM:aN:=aG [(30,KF)]
def H7 (n:Nat):(List Int × Int × Int) × Int->Option ((Int) × List Int × Int × Int):=aI n TM TK [jd,[.i .i64]] [.i .i64] jd [4] (.mp 0)
def iC:=H7 BIG
def qF:TSp:=⟨TL,[jd,[.i .i64]],[.i .i64],jd,Ou.j (.mp 0),iC⟩
theorem akY:zK TM 31 TL TK 37 (.mp 0) [4]:=by show _=_;kernel_rfl
theorem si:qF.Ok PG 31:=aV (ae TJ (ax PG)) akY (by kernel_rfl)
theorem akZ (n) (a0) (a1):H7 n (a0,a1) = bif decide (a1<=0) then some ((0:Int),a0) else bif decide (a1<=256) then (l5 a0).bind fun r0=> bif decide (a1=0) then none else some (Int.tmod r0.1 a1,r0.2) else (l5 a0).bind fun r1=> (l5 r1.2).bind fun r2=> (l5 r2.2).bind fun r3=> (l5 r3.2).bind fun r4=> bif decide (a1=0) then none else some (Int.tmod (IntKind.wrap .i64 ((IntKind.wrap .i64 ((IntKind.wrap .i64 ((IntKind.wrap .i64 (r1.1*(16777216:Int)))+(IntKind.wrap .i64 (r2.1*(65536:Int)))))+(IntKind.wrap .i64 (r3.1*(256:Int)))))+r4.1)) a1,r4.2):=by kernel_rfl
def ang:TC:=
 (zS [bN 2] (zS [dZ 3,zAD 0 11 4 0 4,zAe 5 2 4,ai 2 5] .ret))
def anh:aO:=⟨[.mp [.sl (.ro []) [.d],.d,.d]],(.one false [.d])⟩
def ani:aN:=aG [(31,qF)]
def acp (n:Nat):(List Int × Int × Int)->Option ((Int) × List Int × Int × Int):=aI n ani ang [jd] [.i .i64] jd [2] (.mp 0)
def SF:=acp BIG
def anj:TSp:=⟨anh,[jd],[.i .i64],jd,Ou.j (.mp 0),SF⟩
theorem aAb:zK ani 34 anh ang 6 (.mp 0) [2]:=by show _=_;kernel_rfl
theorem awt:anj.Ok PG 34:=aV (ae si (ax PG)) aAb (by kernel_rfl)
theorem aAc (n) (a0):acp n a0 = (iC (a0,(11:Int))).bind fun r0=> some (IntKind.wrap .i64 ((2:Int)+r0.1),r0.2):=by kernel_rfl
def aie:TC:=
 (zS [bH 6] (zQ (.join [⟨6,[.b],false⟩] 32704 none (zR [dC 7 0 1,zAE 9 7 8,M6 10 9 0 3,ik 12 2 3,zBa,ql 10 13 14 6])) .ret))
def aif:aO:=⟨[.rd false [.d],.rd false [.d],.rd false [.d]],(.one false [.d])⟩
def aig:aN:=aG []
def VX (n:Nat):Int × Int × Int->Option ((Bool) × Unit):=aI n aig aie [[.i .i64],[.i .i64],[.i .i64]] [.b] [] [6] .no
def bD:=VX BIG
def d9:TSp:=⟨aif,[[.i .i64],[.i .i64],[.i .i64]],[.b],[],Ou.j .no,bD⟩
theorem awu:zK aig 32 aif aie 15 .no [6]:=by show _=_;kernel_rfl
theorem dQ:d9.Ok PG 32:=aV (ax PG) awu (by kernel_rfl)
theorem awv (n) (a0) (a1) (a2):VX n (a0,a1,a2) = (bif decide (a1<=a0) then some (decide (a0<=a2)) else some false).bind fun x0=> some (x0,()):=by kernel_rfl
def Pe:TC:=
 (zS [zBb 4] (zS [TB 11 5] (zQ (.join [⟨5,[.sl [.i .i64]],false⟩] 2093152 none (zS [bN 6] (.block 0 (.loop [⟨5,[.sl [.i .i64]],false⟩,⟨6,[.i .i64],false⟩] 2093152 (zQ (zS [MZ 12 6 0] (zC 14 .skip (.exit 0))) (zQ (.block 1 (zR [dh 5 17 5,ai 18 6,MS 19 18,F_ 17 19 20 17 5])) (zR [gJ 15 6 6]))))))) (zQ (.join [⟨5,[.sl [.i .i64]],false⟩] 1180591620717409208224 none (zS [bN 7] (.block 2 (.loop [⟨5,[.sl [.i .i64]],false⟩,⟨7,[.i .i64],false⟩] 1180591620717409208224 (zQ (zS [MZ 21 7 0] (zC 23 .skip (.exit 2))) (zQ (.join [⟨5,[.sl [.i .i64]],false⟩] 1180591620717344196384 none (.block 3 (zS [bN 8] (.block 4 (.loop [⟨5,[.sl [.i .i64]],false⟩,⟨8,[.i .i64],false⟩] 1180591620717344196384 (zQ (zS [Jl 26 8 1] (zC 29 .skip (.exit 4))) (zQ (.join [⟨5,[.sl [.i .i64]],false⟩] 1180591620713116337696 none (.block 5 (zS [ku 32 5,dC 33 1 8,Jk 35 33 34 2,wD 38 32 37,Em 39 5 1 38,ai 9 39] (zS [ku 40 5,dC 41 1 8,O5 43 41 42 2 1,wD 46 40 45,Em 47 5 1 46,ai 10 47] (zQ (.join [⟨5,[.sl [.i .i64]],false⟩] 576180381133307936 none (zS [uI 48 9,mf 50 48 49] (zC 50 (zR [ku 51 5,dC 52 1 8,O5 54 52 53 2 1,ai 57 9,wD 58 51 56,[o4 1 [5,32,40,51] (.store 5 [(0,1)] 0 (.t 58) (.t 57))]]) .skip))) (zS [MZ 59 10 9] (zC 61 (zR [ku 62 5,dC 63 1 8,Jk 65 63 64 2,ai 68 10,wD 69 62 67,zBi 5 62 5 0 69 68]) .skip))))))) (zR [gJ 30 8 8])))))))) (zR [gJ 24 7 7]))))))) (zS [Cx 5 70 5 4] .ret)))))
def Pf:aO:=⟨[.rd false [.d],.rd false oV],(.one false jP)⟩
def Pg:aN:=aG []
def Ep (n:Nat):Int × (List bG)->Option ((List Int) × Unit):=aI n Pg Pe [[.i .i64],[.sl [.i .i64,.i .i64]]] [.sl [.i .i64]] [] [4] .no
def xL:=Ep BIG
def Er:TSp:=⟨Pf,[[.i .i64],[.sl [.i .i64,.i .i64]]],[.sl [.i .i64]],[],Ou.j .no,xL⟩
theorem aih:zK Pg 70 Pf Pe 71 .no [4]:=by show _=_;kernel_rfl
theorem M7:Er.Ok PG 70:=aV (ax PG) aih (by kernel_rfl)
theorem aii (n) (a0) (a1):Ep n (a0,a1) = (aU n (X:=(List Int) × Int) (B:=(List Int)) (fun self1 x0=> bif decide (x0.2<a0) then bif decide (x0.1.length+[x0.2].length<=4294967296) then self1 (x0.1++[x0.2],IntKind.wrap .i64 (x0.2+1)) else none else some x0.1) ([],(0:Int))).bind fun x2=> (aU n (X:=(List Int) × Int) (B:=(List Int)) (fun self4 x3=> bif decide (x3.2<a0) then (aU n (X:=(List Int) × Int) (B:=(List Int)) (fun self6 x5=> bif decide (x5.2<(a1.length:Int)) then (bnd a1.length x5.2 fun n7=> a1[n7]?.bind fun y8=> bnd x5.1.length y8.1 fun n9=> x5.1[n9]?.bind fun y10=> bnd a1.length x5.2 fun n11=> a1[n11]?.bind fun y12=> bnd x5.1.length y12.2 fun n13=> x5.1[n13]?.bind fun y14=> (bif decide (y10<y14) then bnd a1.length x5.2 fun n15=> a1[n15]?.bind fun y16=> bnd x5.1.length y16.2 fun n17=> x5.1[n17]?.bind fun y18=> some (x5.1.set n17 y10) else some x5.1).bind fun x19=> bif decide (y14<y10) then bnd a1.length x5.2 fun n20=> a1[n20]?.bind fun y21=> bnd x19.length y21.1 fun n22=> x19[n22]?.bind fun y23=> some (x19.set n22 y14) else some x19:Option ((List Int))).bind fun x24=> self6 (x24,IntKind.wrap .i64 (x5.2+1)) else some x5.1) (x3.1,(0:Int))).bind fun x25=> self4 (x25,IntKind.wrap .i64 (x3.2+1)) else some x3.1) (x2,(0:Int))).bind fun x26=> some (x26,()):=by kernel_rfl
def Yg:TC:=
 (zS [XW 4 1000000005,bH 5] (zQ (.seq (.join [⟨16,[.b],false⟩] 130560 none (zR [ai 9 0,ug 10 32 9 12,Gb 11 10 1 3,XX 32 13 3 14 14 3,uH 15 14 3 12])) (zC 16 (zS [[o1 17 (.build gF [])],Bv 4 17 4 17] .ret) .skip)) (zS [dC 18 0 1,[o1 20 (.make (.t 19) [.i .i64]),o5 (.build gF [(0,.t 18),(4,.t 20)]) 21 20],XW 6 1000000007,mX 6 21 6 21] (zQ (.join [⟨6,gF,false⟩] 68715282624 none (zS [bN 7] (.block 0 (.loop [⟨6,gF,false⟩,⟨7,[.i .i64],false⟩] 68715282624 (zQ (zS [MZ 22 7 0] (zC 24 .skip (.exit 0))) (zQ (.block 1 (zR [dC 29 7 1,xG 27 6 1,zAC 31 29 30,zAe 32 1 31,MS 33 32,O_ 28 28 33 34 28 28 6 34 6 6 1])) (zR [gJ 25 7 7]))))))) (zQ (.join [⟨6,gF,false⟩] 562881233944896 none (zS [bN 8] (.block 2 (.loop [⟨6,gF,false⟩,⟨8,[.i .i64],false⟩] 562881233944896 (zQ (zS [MZ 36 8 1] (zC 38 .skip (.exit 2))) (zQ (.block 3 (zR [ai 43 0,xG 41 6 3,XY 44,lQ 45 70 43 44,[o5 (.sli [.sl [.i .i64]] [.t 45]) 46 45,⟨false,[42],[],.det 3 (.app (some 42) 46),[47,42,46,42,6],(some 47),none⟩],zLq 48 6 47 42 6 3 47])) (zR [gJ 39 8 8]))))))) (zS [Bt 49 6 15 4 4 6,ic 5] .ret))))))
def Yh:aO:=⟨[.rd false [.d],.rd false [.d]],(.tup [(true,15),(false,1)] Ct0)⟩
def Yi:aN:=aG [(32,d9),(70,Er)]
def KG (n:Nat):Int × Int->Option ((Int × List Int × List bG × List (List Int) × List Int × Int × Int × Int × Int × Int × Int × Int × List bG × Int × List VW × Bool) × Unit):=aI n Yi Yg [[.i .i64],[.i .i64]] [.i .i64,.sl [.i .i64],.sl [.i .i64,.i .i64],.sl [.sl [.i .i64]],.sl [.i .i64],.i .i64,.i .i64,.i .i64,.i .i64,.i .i64,.i .i64,.i .i64,.sl [.i .i64,.i .i64],.i .i64,.sl Ty8,.b] [] [4,5] .no
def KH:=KG BIG
def Yj:TSp:=⟨Yh,[[.i .i64],[.i .i64]],[.i .i64,.sl [.i .i64],.sl [.i .i64,.i .i64],.sl [.sl [.i .i64]],.sl [.i .i64],.i .i64,.i .i64,.i .i64,.i .i64,.i .i64,.i .i64,.i .i64,.sl [.i .i64,.i .i64],.i .i64,.sl Ty8,.b],[],Ou.j .no,KH⟩
theorem aps:zK Yi 35 Yh Yg 50 .no [4,5]:=by show _=_;kernel_rfl
theorem ak0:Yj.Ok PG 35:=aV (ae dQ (ae M7 (ax PG))) aps (by kernel_rfl)
theorem apt (n) (a0) (a1):KG n (a0,a1) = ((bD (a0,(1:Int),(12:Int))).bind fun r0=> bif !r0.1 then some true else (bD (a1,(1:Int),(3:Int))).bind fun r1=> some !r1.1).bind fun x2=> bif x2 then some (((0:Int),[],[],[],[],(0:Int),(0:Int),(0:Int),(0:Int),(0:Int),(0:Int),(0:Int),[],(0:Int),[],false),()) else bif decide (0<=a1) then bif decide ((Int.toNat a1)<=4294967296) then (aU n (X:=rf × Int) (B:=rf) (fun self4 x3=> bif decide (x3.2<a0) then bif decide (a1=0) then none else bif decide (x3.1.2.1.length+([IntKind.wrap .i64 ((1:Int)+(Int.tmod x3.2 a1))]).length<=4294967296) then self4 ((x3.1.1,x3.1.2.1++([IntKind.wrap .i64 ((1:Int)+(Int.tmod x3.2 a1))]),x3.1.2.2),IntKind.wrap .i64 (x3.2+1)) else none else some x3.1) ((a0,[],[],[],List.replicate (Int.toNat a1) (0:Int),(0:Int),(0:Int),(0:Int),(0:Int),(0:Int),(0:Int),(0:Int),[],(0:Int),[]),(0:Int))).bind fun x5=> (aU n (X:=rf × Int) (B:=rf) (fun self7 x6=> bif decide (x6.2<a1) then (xL (a0,[])).bind fun r8=> bif decide (x6.1.2.2.2.1.length+[r8.1].length<=4294967296) then self7 ((x6.1.1,x6.1.2.1,x6.1.2.2.1,x6.1.2.2.2.1++[r8.1],x6.1.2.2.2.2),IntKind.wrap .i64 (x6.2+1)) else none else some x6.1) (x5,(0:Int))).bind fun x9=> some ((x9.1,x9.2.1,x9.2.2.1,x9.2.2.2.1,x9.2.2.2.2.1,x9.2.2.2.2.2.1,x9.2.2.2.2.2.2.1,x9.2.2.2.2.2.2.2.1,x9.2.2.2.2.2.2.2.2.1,x9.2.2.2.2.2.2.2.2.2.1,x9.2.2.2.2.2.2.2.2.2.2.1,x9.2.2.2.2.2.2.2.2.2.2.2.1,x9.2.2.2.2.2.2.2.2.2.2.2.2.1,x9.2.2.2.2.2.2.2.2.2.2.2.2.2.1,x9.2.2.2.2.2.2.2.2.2.2.2.2.2.2,true),()) else none else none:=by kernel_rfl
def adR:TC:=
 (zS [zBB 2 1000000003,bH 3] (zQ (zS [ai 4 0,ug 5 32 4 12,jr 6 5] (zC 6 (zS [zBC 7,Bv 2 7 2 7] .ret) .skip)) (zS [ai 8 0,[o1 9 (.build iG [(0,.t 8)])],mX 2 9 2 9,ic 3] .ret)))
def adS:aO:=⟨[.rd false [.d]],(.tup [(true,2),(false,1)] [.d,.sl (.own none) [.d,.d,.d,.d],.d])⟩
def adT:aN:=aG [(32,d9)]
def Ph (n:Nat):Int->Option (Zt8 × Unit):=aI n adT adR [[.i .i64]] apn [] [2,3] .no
def Pi:=Ph BIG
def adU:TSp:=⟨adS,[[.i .i64]],apn,[],Ou.j .no,Pi⟩
theorem atm:zK adT 71 adS adR 10 .no [2,3]:=by show _=_;kernel_rfl
theorem apu:adU.Ok PG 71:=aV (ae dQ (ax PG)) atm (by kernel_rfl)
theorem atn (n) (a0):Ph n a0 = (bD (a0,(1:Int),(12:Int))).bind fun r0=> bif !r0.1 then some (((0:Int),[],false),()) else some ((a0,[],true),()):=by kernel_rfl
def TN:TC:=
 (zS [zBD 4 1000000005,bH 5] (zS [ai 9 1,X7 10 71 9 8,zDa 8 2 11 8,mY 12 8 2,zBB 6 1000000007,xH 6 11 6 11] (zQ (.seq (.join [⟨19,[.b],false⟩] 1040384 none (zR [ai 13 7,Gb 14 13 0 2,XX 32 16 3 17 17 2,uH 18 17 2 15])) (zC 19 (zS [[o1 20 (.build Cu [])],Bv 4 20 4 20] .ret) .skip)) (zS [ai 21 0,lS 22 6 2,[⟨false,[22],[],.det 2 (.build Cu [(0,.t 21),(1,.t 22)]),[23,22,22,6],(some 23),none⟩],mX 4 23 4 23,ic 5] .ret))))
def TP:aO:=⟨[.rd false [.d],.rd false [.d]],(.tup [(true,7),(false,1)] [.d,.d,.sl (.own none) [.d,.d,.d,.d],.d,.d,.sl (.own none) [.d,.d],.sl (.own none) [.d],.d])⟩
def TQ:aN:=aG [(71,adU),(32,d9)]
def H8 (n:Nat):Int × Int->Option ((Int × Int × List nZ × Int × Bool × List bG × List Int × Bool) × Unit):=aI n TQ TN [[.i .i64],[.i .i64]] [.i .i64,.i .i64,.sl oU,.i .i64,.b,.sl [.i .i64,.i .i64],.sl [.i .i64],.b] [] [4,5] .no
def H9:=H8 BIG
def TU:TSp:=⟨TP,[[.i .i64],[.i .i64]],[.i .i64,.i .i64,.sl oU,.i .i64,.b,.sl [.i .i64,.i .i64],.sl [.i .i64],.b],[],Ou.j .no,H9⟩
theorem ak1:zK TQ 36 TP TN 24 .no [4,5]:=by show _=_;kernel_rfl
theorem aij:TU.Ok PG 36:=aV (ae apu (ae dQ (ax PG))) ak1 (by kernel_rfl)
theorem ak2 (n) (a0) (a1):H8 n (a0,a1) = (Pi a1).bind fun r0=> (bif !r0.1.2.2 then some true else (bD (a0,(1:Int),(3:Int))).bind fun r1=> some !r1.1).bind fun x2=> bif x2 then some (((0:Int),(0:Int),[],(0:Int),false,[],[],false),()) else some ((a0,r0.1.1,r0.1.2.1,(0:Int),false,[],[],true),()):=by kernel_rfl
def Yk:TC:=
 (zS [bN 2] (zS [Gd 4 0 4,zDc 6 5 4,zAe 7 12 6,ai 3 7] (zQ (zS [ai 8 3,El 9 8 60] (zC 9 (zS [uh 2 60] .ret) .skip)) (zS [yZ 10 3 2] .ret))))
def Yl:aO:=⟨[.rd false jP],(.one false [.d])⟩
def Ym:aN:=aG []
def KI (n:Nat):List (Int)->Option ((Int) × Unit):=aI n Ym Yk [[.sl [.i .u8]]] [.i .i64] [] [2] .no
def KJ:=KI BIG
def Yn:TSp:=⟨Yl,[[.sl [.i .u8]]],[.i .i64],[],Ou.j .no,KJ⟩
theorem apv:zK Ym 37 Yl Yk 11 .no [2]:=by show _=_;kernel_rfl
theorem ak3:Yn.Ok PG 37:=aV (ax PG) apv (by kernel_rfl)
theorem apw (n) (a0):KI n a0 = bif decide ((4:Int)=0) then none else bif decide (60<(IntKind.wrap .i64 ((12:Int)+(IntKind.wrap .i64 (Int.tdiv (a0.length:Int) (4:Int)))))) then some ((60:Int),()) else some (IntKind.wrap .i64 ((12:Int)+(IntKind.wrap .i64 (Int.tdiv (a0.length:Int) (4:Int)))),()):=by kernel_rfl
def ank:TC:=
 (zS [nO 1 0] (zS [oW 3,Jf 4 3,Bn 5 1 9 4,zDe 6 5 0,ai 2 6] .ret))
def anl:aO:=⟨[.rd true MR],(.one false [.d])⟩
def anm:aN:=aG []
def ann (n:Nat):rf->Option ((Bool) × Unit):=aI n anm ank [gF] [.b] [] [2] .no
def DT:=ann BIG
def SG:TSp:=⟨anl,[gF],[.b],[],Ou.j .no,DT⟩
theorem aAd:zK anm 38 anl ank 7 .no [2]:=by show _=_;kernel_rfl
theorem VY:SG.Ok PG 38:=aV (ax PG) aAd (by kernel_rfl)
theorem aAe (n) (a0):ann n a0 = some (!decide (a0.2.2.2.2.2.2.2.2.2.1=0),()):=by kernel_rfl
def M8:TC:=
 (zS [bN 4] (zS [ai 5 1,dZ 6,Gd 7 1 7,XZ 31 8 9 9,wD 10 5 9,Em 11 5 1 10,ai 4 11] .ret))
def M9:aO:=⟨[.mp [.sl (.ro []) [.d],.d,.d],.rd false jP],(.one false [.d])⟩
def M_:aN:=aG [(31,qF)]
def B_ (n:Nat):(List Int × Int × Int) × List (Int)->Option ((Int) × List Int × Int × Int):=aI n M_ M8 [jd,[.sl [.i .i64]]] [.i .i64] jd [4] (.mp 0)
def lL:=B_ BIG
def Na:TSp:=⟨M9,[jd,[.sl [.i .i64]]],[.i .i64],jd,Ou.j (.mp 0),lL⟩
theorem afS:zK M_ 72 M9 M8 12 (.mp 0) [4]:=by show _=_;kernel_rfl
theorem acr:Na.Ok PG 72:=aV (ae si (ax PG)) afS (by kernel_rfl)
theorem afT (n) (a0) (a1):B_ n (a0,a1) = (iC (a0,(a1.length:Int))).bind fun r0=> bnd a1.length r0.1 fun n1=> a1[n1]?.bind fun y2=> some (y2,r0.2):=by kernel_rfl
def adV:TC:=
 (zS [zDg 8 1000000009] (zS [ai 10 3,dZ 11,[⟨false,[],[],.det 10 (.sli [.i .i64] [kO 1,kO 1,kO 1,kO 1,kO 2,kO 2,kO 3,kO 3,kO 4]),[12,1000000001,1000000002,1000000003,1000000004,1000000005,1000000006,1000000007,1000000008,1000000009],(some 12),none⟩],XZ 72 12 13 13,dZ 14,ai 15 1,XZ 31 15 16 16,dZ 17,ai 18 1,XZ 31 18 19 19,[o1 20 (.build jq [(0,.t 10),(1,.t 13),(2,.t 16),(3,.t 19)])],zDg 9 1000000010,jW 9 9 20] (zQ (.join [⟨0,jd,false⟩,⟨9,jq,false⟩] 534774273 none (zS [bV 21 9 1,yV 23 22 4] (zC 23 (zR [dZ 24,ai 25 2,XZ 31 25 26 26,zAe 27 1 26,xJ 28 9 9 3 27]) .skip))) (zQ (.join [⟨0,jd,false⟩,⟨9,jq,false⟩] 2251799276814849 none (zS [dZ 29,zAD 0 30 30 0 30] (.block 0 (zS [TD 32 30 0] (zC 31 (zR [dZ 33,ai 34 1,[⟨false,[],[],.det 4 (.sli [.i .i64] [kO (-1),.t 34,kO 11,kO 12]),[35,1000000001,1000000003,1000000004],(some 35),none⟩],XZ 72 35 36 36,xJ 37 9 9 2 36]) (zS [xI 39 30 1 38] (zC 38 (zR [dZ 40,ai 41 1,[⟨false,[],[],.det 4 (.sli [.i .i64] [kO (-1),kO 0,.t 41,kO 12]),[42,1000000001,1000000002,1000000004],(some 42),none⟩],XZ 72 42 43 43,xJ 44 9 9 3 43]) (zS [xI 46 30 2 45] (zC 45 (zR [dZ 47,[⟨false,[],[],.det 3 (.sli [.i .i64] [kO 0,kO 5]),[48,1000000001,1000000002],(some 48),none⟩],XZ 72 48 49 49,xJ 50 9 9 1 49]) .skip))))))))) (zS [eF 51 9 4,jW 8 8 51] .ret)))))
def adW:aO:=⟨[.mp [.sl (.ro []) [.d],.d,.d],.rd false [.d],.rd false [.d],.rd false [.d]],(.one true [.d,.d,.d,.d])⟩
def adX:aN:=aG [(72,Na),(31,qF)]
def Pj (n:Nat):(List Int × Int × Int) × Int × Int × Int->Option (BZ × List Int × Int × Int):=aI n adX adV [jd,[.i .i64],[.i .i64],[.i .i64]] jq jd [8] (.mp 0)
def Pk:=Pj BIG
def adY:TSp:=⟨adW,[jd,[.i .i64],[.i .i64],[.i .i64]],jq,jd,Ou.j (.mp 0),Pk⟩
theorem ato:zK adX 39 adW adV 52 (.mp 0) [8]:=by show _=_;kernel_rfl
theorem apx:adY.Ok PG 39:=aV (ae acr (ae si (ax PG))) ato (by kernel_rfl)
theorem atp (n) (a0) (a1) (a2) (a3):Pj n (a0,a1,a2,a3) = (lL (a0,[(1:Int),(1:Int),(1:Int),(1:Int),(2:Int),(2:Int),(3:Int),(3:Int),(4:Int)])).bind fun r0=> (iC (r0.2,a1)).bind fun r1=> (iC (r1.2,a1)).bind fun r2=> (bif decide (r0.1=4) then (iC (r2.2,a2)).bind fun r3=> some (r3.2,(a3,r0.1,r1.1,IntKind.wrap .i64 ((1:Int)+r3.1))) else some (r2.2,(a3,r0.1,r1.1,r2.1))).bind fun x4=> ((iC (x4.1,(30:Int))).bind fun r5=> bif decide (r5.1=0) then (lL (r5.2,[(-1:Int),a1,(11:Int),(12:Int)])).bind fun r6=> some (r6.2,(x4.2.1,x4.2.2.1,r6.1,x4.2.2.2.2)) else bif decide (r5.1=1) then (lL (r5.2,[(-1:Int),(0:Int),a1,(12:Int)])).bind fun r7=> some (r7.2,(x4.2.1,x4.2.2.1,x4.2.2.2.1,r7.1)) else bif decide (r5.1=2) then (lL (r5.2,[(0:Int),(5:Int)])).bind fun r8=> some (r8.2,(x4.2.1,r8.1,x4.2.2.2)) else some (r5.2,x4.2)).bind fun x9=> some (x9.2,x9.1):=by kernel_rfl
def Gf:TC:=
 (zS [ek 1 0,zDk 2 1000000003] (zS [XY 3,lm 4 1 2 4,yU 3 5 6 3,oW 7,OW 6 2 7 6] (zS [lS 8 1 4,zBz 8 2 8 2 8 8 1] .ret)))
def Gg:aO:=⟨[.rd true Je],(.one true Je)⟩
def Gh:aN:=aG []
def xM (n:Nat):zO->Option (zO × Unit):=aI n Gh Gf [jf] jf [] [2] .no
def xN:=xM BIG
def Gi:TSp:=⟨Gg,[jf],jf,[],Ou.j .no,xN⟩
theorem Yo:zK Gh 103 Gg Gf 9 .no [2]:=by show _=_;kernel_rfl
theorem VZ:Gi.Ok PG 103:=aV (ax PG) Yo (by kernel_rfl)
theorem Yp (n) (a0):xM n a0 = bif decide (0+a0.2.2.1.length<=4294967296) then some ((a0.1,a0.2.1,[]++a0.2.2.1,a0.2.2.2),()) else none:=by kernel_rfl
def Yq:TC:=
 (zS [ek 1 0,XW 2 1000000003] (zS [zBc 5,lm 6 1 1 6,yU 5 7 8 5,oW 9,OW 8 1 9 8] (zS [XY 10,bV 11 1 2,yU 10 12 13 10,oW 14,OW 13 2 14 13] (zS [zBc 15,bV 16 1 4,yU 15 17 18 15,oW 19,OW 18 4 19 18] (zS [[o1 20 (.sli Ty8 [])],bV 21 1 14,yU 20 22 23 20,oW 24,OW 23 14 24 23] (zS [[o1 25 (.sli [.sl [.i .i64]] [])],dh 25 3 25] (zQ (.join [⟨3,[.sl [.sl [.i .i64]]],false⟩] 8796025913368 none (zS [bN 4] (.block 0 (.loop [⟨3,[.sl [.sl [.i .i64]]],false⟩,⟨4,[.i .i64],false⟩] 8796025913368 (zQ (zS [O7 26 4 1 3 29] (zC 30 .skip (.exit 0))) (zQ (.block 1 (zR [dh 3 33 3,zBc 34,xK 35 1 3 4,ui 38 36 37 1,yU 34 39 40 34,[o5 (.sli [.sl [.i .i64]] [.t 40]) 41 40],zDn 33 41 42 33 41 42,dh 42 3 42])) (zR [gJ 31 4 4]))))))) (zS [dh 3 43 3,oW 44,OW 43 3 44 43] (zS [M0 45,zDo 47 1 10 46 4,jH 48 103 47,M0 49,OW 48 10 50 48] (zS [Bt 51 1 15 2 2 1] .ret))))))))))
def Yr:aO:=⟨[.rd true MR],(.one true MR)⟩
def Yt:aN:=aG [(103,Gi)]
def KL (n:Nat):rf->Option (rf × Unit):=aI n Yt Yq [gF] gF [] [2] .no
def xO:=KL BIG
def KM:TSp:=⟨Yr,[gF],gF,[],Ou.j .no,xO⟩
theorem apy:zK Yt 73 Yr Yq 52 .no [2]:=by show _=_;kernel_rfl
theorem TV:KM.Ok PG 73:=aV (ae VZ (ax PG)) apy (by kernel_rfl)
theorem apz (n) (a0):KL n a0 = bif decide (0+a0.2.1.length<=4294967296) then bif decide (0+a0.2.2.1.length<=4294967296) then bif decide (0+a0.2.2.2.2.1.length<=4294967296) then bif decide (0+a0.2.2.2.2.2.2.2.2.2.2.2.2.2.2.length<=4294967296) then (aU n (X:=(List (List Int)) × Int) (B:=(List (List Int))) (fun self1 x0=> bif decide (x0.2<(a0.2.2.2.1.length:Int)) then bnd a0.2.2.2.1.length x0.2 fun n2=> a0.2.2.2.1[n2]?.bind fun y3=> bif decide (0+y3.length<=4294967296) then bif decide (x0.1.length+([[]++y3]).length<=4294967296) then self1 (x0.1++([[]++y3]),IntKind.wrap .i64 (x0.2+1)) else none else none else some x0.1) ([],(0:Int))).bind fun x4=> (xN (a0.2.2.2.2.2.2.2.2.2.2.1,a0.2.2.2.2.2.2.2.2.2.2.2.1,a0.2.2.2.2.2.2.2.2.2.2.2.2.1,a0.2.2.2.2.2.2.2.2.2.2.2.2.2.1)).bind fun r5=> some ((a0.1,[]++a0.2.1,[]++a0.2.2.1,x4,[]++a0.2.2.2.2.1,a0.2.2.2.2.2.1,a0.2.2.2.2.2.2.1,a0.2.2.2.2.2.2.2.1,a0.2.2.2.2.2.2.2.2.1,a0.2.2.2.2.2.2.2.2.2.1,r5.1.1,r5.1.2.1,r5.1.2.2.1,r5.1.2.2.2,[]++a0.2.2.2.2.2.2.2.2.2.2.2.2.2.2),()) else none else none else none else none:=by kernel_rfl
def adZ:TC:=
 (zS [nO 3 1] (zQ (.join [⟨4,[.b],false⟩] 268435440 none (zR [ai 5 0,ug 6 32 5 12,ai 7 6,mZ 8 2,rZ 9 3 0 8 2,ik 10 0 2,Jg 11 10 2,zDs 32 9 11 12 12 2,lT 7 12 13,F9 15 9 3 1 9,ik 17 0 9,Jg 18 17 9,zDs 32 16 18 19 19 9,lT 14 19 20,X9 22 16 3 0 3 1,zDt 26 23 25 16,ql 21 26 27 4])) .ret))
def ad1:aO:=⟨[.rd false [.d],.rd true [.d,.d]],(.one false [.d])⟩
def ad2:aN:=aG [(32,d9)]
def Pm (n:Nat):Int × bG->Option ((Bool) × Unit):=aI n ad2 adZ [[.i .i64],[.i .i64,.i .i64]] [.b] [] [4] .no
def wH:=Pm BIG
def Bz:TSp:=⟨ad1,[[.i .i64],[.i .i64,.i .i64]],[.b],[],Ou.j .no,wH⟩
theorem atq:zK ad2 107 ad1 adZ 28 .no [4]:=by show _=_;kernel_rfl
theorem Dj:Bz.Ok PG 107:=aV (ae dQ (ax PG)) atq (by kernel_rfl)
theorem atr (n) (a0) (a1):Pm n (a0,a1) = ((bD (a0,(1:Int),(12:Int))).bind fun r0=> bif r0.1 then (bD (a1.1,(0:Int),IntKind.wrap .i64 (a0-1))).bind fun r1=> bif r1.1 then (bD (a1.2,(0:Int),IntKind.wrap .i64 (a0-1))).bind fun r2=> bif r2.1 then some (decide (a1.1<a1.2)) else some false else some false else some false).bind fun x3=> some (x3,()):=by kernel_rfl
def Yu:TC:=
 (zS [ek 2 0,nO 3 1] (zQ (.join [⟨4,[.b],false⟩] 16777200 none (zR [lm 5 2 0 5,lm 7 3 0 7,mf 9 6 8,ai 10 9,pE 11 5 2 0 5,pE 13 5 3 0 5,zDw 15 12 14 5,iL 16 15 5,X9 17 11 2 1 3 1,zDt 21 18 20 11,En 16 21 22 22 5 10,ai 4 23])) .ret))
def Yv:aO:=⟨[.rd true [.d,.d],.rd true [.d,.d]],(.one false [.d])⟩
def Yw:aN:=aG []
def KN (n:Nat):bG × bG->Option ((Bool) × Unit):=aI n Yw Yu [[.i .i64,.i .i64],[.i .i64,.i .i64]] [.b] [] [4] .no
def xP:=KN BIG
def KO:TSp:=⟨Yv,[[.i .i64,.i .i64],[.i .i64,.i .i64]],[.b],[],Ou.j .no,xP⟩
theorem apA:zK Yw 125 Yv Yu 24 .no [4]:=by show _=_;kernel_rfl
theorem TW:KO.Ok PG 125:=aV (ax PG) apA (by kernel_rfl)
theorem apB (n) (a0) (a1):KN n (a0,a1) = (bif decide (a0.1<a1.1) then some true else bif decide (a0.1=a1.1) then some (decide (a0.2<a1.2)) else some false).bind fun x0=> some (x0,()):=by kernel_rfl
def TZ:TC:=
 (zS [bH 4] (zQ (.join [] 68719476720 (some [⟨4,[.b],false⟩]) (zS [bN 5] (.block 0 (.loop [⟨5,[.i .i64],false⟩] 68719476720 (zQ (zS [dC 6 5 1,mJ 8 7,mf 9 6 8] (zC 9 .skip (.exit 0))) (zQ (.join [] 68719472656 (some [⟨4,[.b],false⟩]) (.block 1 (zQ (.join [⟨35,[.b],false⟩] 68719472640 none (zR [dC 12 0 1,ai 14 5,uJ 15 13 14 2 2,lQ 17 107 12 16,Gb 18 17 5 7,Jh 21 20 0 7,iL 22 21 7,ik 23 1 10,ik 24 5 10,Jg 25 24 10,Cv 26 23 25 10,zDB 27 23 2 26 2 10,ik 28 1 10,ik 29 5 10,Cv 30 28 29 10,zDB 31 28 2 30 2 10,xE 125 27 31 32 32 10,zDD 33 32 10,En 22 33 34 34 7 19])) (zC 35 (zS [bH 4] .ret) .skip)))) (zR [gJ 10 5 5]))))))) (zS [ai 36 1,mJ 37 36,zAA 38 37 66,ai 4 38] .ret)))
def T9:aO:=⟨[.rd false [.d],.rd false oV],(.one false [.d])⟩
def T_:aN:=aG [(107,Bz),(125,KO)]
def H_ (n:Nat):Int × (List bG)->Option ((Bool) × Unit):=aI n T_ TZ [[.i .i64],[.sl [.i .i64,.i .i64]]] [.b] [] [4] .no
def qG:=H_ BIG
def uK:TSp:=⟨T9,[[.i .i64],[.sl [.i .i64,.i .i64]]],[.b],[],Ou.j .no,qG⟩
theorem ak4:zK T_ 104 T9 TZ 39 .no [4]:=by show _=_;kernel_rfl
theorem xQ:uK.Ok PG 104:=aV (ae Dj (ae TW (ax PG))) ak4 (by kernel_rfl)
theorem ak5 (n) (a0) (a1):H_ n (a0,a1) =
 (aU n (X:=Int) (B:=(Unit) ⊕ (Bool)) (fun self1 x0=>
  bif decide (x0<(a1.length:Int)) then
   ((bnd a1.length x0 fun n2=>
    a1[n2]?.bind fun y3=>
    (wH (a0,y3)).bind fun r4=>
    bif !r4.1 then
     some true
    else bif decide (0<x0) then
     bnd a1.length (IntKind.wrap .i64 (x0-1)) fun n5=>
     a1[n5]?.bind fun y6=>
     bnd a1.length x0 fun n7=>
     a1[n7]?.bind fun y8=>
     (xP (y6,y8)).bind fun r9=>
     some !r9.1
    else some false).bind fun x10=>
    bif x10 then
     some (Sum.inr false)
    else some (Sum.inl ())).bind fun y=>match y with
   | .inl x11=>
    self1 (IntKind.wrap .i64 (x0+1))
   | .inr x11=>
    some (Sum.inr x11)
  else some (Sum.inl ())) (0:Int)).bind fun y=>match y with
 | .inl x12=>
  some (decide ((a1.length:Int)<=66),())
 | .inr x12=>
  some (x12,()):=by kernel_rfl
def Pn:TC:=
 (zS [bH 4] (zQ (zS [Gd 6 1 6,ai 8 0,X0 9 7 8] (zC 9 (zS [bH 4] .ret) .skip)) (zQ (.join [] 68719475760 (some [⟨4,[.b],false⟩]) (zS [bN 5] (.block 0 (.loop [⟨5,[.i .i64],false⟩] 68719475760 (zQ (zS [MZ 10 5 0] (zC 12 .skip (.exit 0))) (zQ (.join [] 68719443984 (some [⟨4,[.b],false⟩]) (.block 1 (zQ (.join [⟨35,[.b],false⟩] 68719443968 none (zR [dC 15 1 5,ai 19 5,ui 17 15 16 1,zEa 20 32 18 19,Gb 21 20 1 7,iL 24 1 7,zLt 25 5 7 24 7,zEc 27 24 1 26 7,zEb 28 23 27 7,zEc 29 23 1 28 7,iL 30 1 7,zLt 31 5 7 30 7,zEc 33 30 1 32 7,MU 34 29 33 7,xD 22 34 35])) (zC 35 (zS [bH 4] .ret) .skip)))) (zR [gJ 13 5 5]))))))) (zS [ic 4] .ret))))
def Po:aO:=⟨[.rd false [.d],.rd false jP],(.one false [.d])⟩
def Pp:aN:=aG [(32,d9)]
def Es (n:Nat):Int × List (Int)->Option ((Bool) × Unit):=aI n Pp Pn [[.i .i64],[.sl [.i .i64]]] [.b] [] [4] .no
def xR:=Es BIG
def Et:TSp:=⟨Po,[[.i .i64],[.sl [.i .i64]]],[.b],[],Ou.j .no,xR⟩
theorem aik:zK Pp 105 Po Pn 36 .no [4]:=by show _=_;kernel_rfl
theorem Nc:Et.Ok PG 105:=aV (ae dQ (ax PG)) aik (by kernel_rfl)
theorem ail (n) (a0) (a1):Es n (a0,a1) =
 bif !decide ((a1.length:Int)=a0) then
  some (false,())
 else (aU n (X:=Int) (B:=(Unit) ⊕ (Bool)) (fun self1 x0=>
  bif decide (x0<a0) then
   ((bnd a1.length x0 fun n2=>
    a1[n2]?.bind fun y3=>
    (bD (y3,(0:Int),x0)).bind fun r4=>
    bif !r4.1 then
     some true
    else bnd a1.length x0 fun n5=>
    a1[n5]?.bind fun y6=>
    bnd a1.length y6 fun n7=>
    a1[n7]?.bind fun y8=>
    bnd a1.length x0 fun n9=>
    a1[n9]?.bind fun y10=>
    some (!decide (y8=y10))).bind fun x11=>
    bif x11 then
     some (Sum.inr false)
    else some (Sum.inl ())).bind fun y=>match y with
   | .inl x12=>
    self1 (IntKind.wrap .i64 (x0+1))
   | .inr x12=>
    some (Sum.inr x12)
  else some (Sum.inl ())) (0:Int)).bind fun y=>match y with
 | .inl x13=>
  some (true,())
 | .inr x13=>
  some (x13,()):=by kernel_rfl
def Yx:TC:=
 (zS [ek 2 0,bN 4] (zQ (.join [] 4194288 (some [⟨4,[.i .i64],false⟩]) (zS [bN 5] (.block 0 (.loop [⟨5,[.i .i64],false⟩] 4194288 (zQ (zS [ai 6 5,lm 7 2 14 7,mJ 9 8,mf 10 6 9] (zC 10 .skip (.exit 0))) (zQ (.block 1 (zS [oW 13,Bn 14 2 14 13,ai 15 5,Jk 16 14 15 6,ai 19 1,Bp 20 18 19] (zC 20 (zS [yZ 21 5 4] .ret) .skip))) (zR [gJ 11 5 5]))))))) (zS [zEf 4] .ret)))
def Yy:aO:=⟨[.rd true MR,.rd false [.d]],(.one false [.d])⟩
def Yz:aN:=aG []
def KP (n:Nat):rf × Int->Option ((Int) × Unit):=aI n Yz Yx [gF,[.i .i64]] [.i .i64] [] [4] .no
def xS:=KP BIG
def Dk:TSp:=⟨Yy,[gF,[.i .i64]],[.i .i64],[],Ou.j .no,xS⟩
theorem apC:zK Yz 75 Yy Yx 22 .no [4]:=by show _=_;kernel_rfl
theorem Ia:Dk.Ok PG 75:=aV (ax PG) apC (by kernel_rfl)
theorem apD (n) (a0) (a1):KP n (a0,a1) = (aU n (X:=Int) (B:=(Unit) ⊕ (Int)) (fun self1 x0=> bif decide (x0<(a0.2.2.2.2.2.2.2.2.2.2.2.2.2.2.length:Int)) then bnd a0.2.2.2.2.2.2.2.2.2.2.2.2.2.2.length x0 fun n2=> a0.2.2.2.2.2.2.2.2.2.2.2.2.2.2[n2]?.bind fun y3=> bif decide (y3.1=a1) then some (Sum.inr x0) else self1 (IntKind.wrap .i64 (x0+1)) else some (Sum.inl ())) (0:Int)).bind fun y=>match y with | .inl x4=> some ((-1:Int),()) | .inr x4=> some (x4,()):=by kernel_rfl
def Gj:TC:=
 (zS [bH 4] (zQ (zS [Gd 6 0 6,Gd 8 1 8,X0 10 7 9] (zC 10 (zS [bH 4] .ret) .skip)) (zQ (.join [] 67106864 (some [⟨4,[.b],false⟩]) (zS [bN 5] (.block 0 (.loop [⟨5,[.i .i64],false⟩] 67106864 (zQ (zS [Jl 11 5 0] (zC 14 .skip (.exit 0))) (zQ (.block 1 (zS [dC 17 0 5,dC 21 1 5,uJ 19 17 18 2 2,uJ 23 21 22 2 2,[o1 25 (.eqA [.i,.i] (.t 20) (.t 24) true)]] (zC 25 (zS [bH 4] .ret) .skip))) (zR [gJ 15 5 5]))))))) (zS [ic 4] .ret))))
def Gl:aO:=⟨[.rd false oV,.rd false oV],(.one false [.d])⟩
def Gm:aN:=aG []
def xU (n:Nat):(List bG) × (List bG)->Option ((Bool) × Unit):=aI n Gm Gj [[.sl [.i .i64,.i .i64]],[.sl [.i .i64,.i .i64]]] [.b] [] [4] .no
def rq:=xU BIG
def xV:TSp:=⟨Gl,[[.sl [.i .i64,.i .i64]],[.sl [.i .i64,.i .i64]]],[.b],[],Ou.j .no,rq⟩
theorem YA:zK Gm 122 Gl Gj 26 .no [4]:=by show _=_;kernel_rfl
theorem Eu:xV.Ok PG 122:=aV (ax PG) YA (by kernel_rfl)
theorem YB (n) (a0) (a1):xU n (a0,a1) = bif !decide ((a0.length:Int)=(a1.length:Int)) then some (false,()) else (aU n (X:=Int) (B:=(Unit) ⊕ (Bool)) (fun self1 x0=> bif decide (x0<(a0.length:Int)) then bnd a0.length x0 fun n2=> a0[n2]?.bind fun y3=> bnd a1.length x0 fun n4=> a1[n4]?.bind fun y5=> bif !(decide (y3.1=y5.1)&&(decide (y3.2=y5.2)&&true)) then some (Sum.inr false) else self1 (IntKind.wrap .i64 (x0+1)) else some (Sum.inl ())) (0:Int)).bind fun y=>match y with | .inl x6=> some (true,()) | .inr x6=> some (x6,()):=by kernel_rfl
def Gn:TC:=
 (zS [ek 2 0,nO 3 1] (zQ (.join [⟨4,[.b],false⟩] 2147483632 none (zR [lm 5 2 0 5,lm 7 3 0 7,Bp 9 6 8,Gc 10 9 5 2 1 5,F9 13 5 3 1 5,zLu 15 12 14 5 10,X9 18 12 2 3 3 3,zLu 22 19 21 12 17,X9 25 19 2 2 3 2,xE 122 26 28 29 29 19,ql 24 29 30 4])) .ret))
def Gp:aO:=⟨[.rd true Je,.rd true Je],(.one false [.d])⟩
def Gq:aN:=aG [(122,xV)]
def ru (n:Nat):zO × zO->Option ((Bool) × Unit):=aI n Gq Gn [jf,jf] [.b] [] [4] .no
def lq:=ru BIG
def xW:TSp:=⟨Gp,[jf,jf],[.b],[],Ou.j .no,lq⟩
theorem YC:zK Gq 92 Gp Gn 31 .no [4]:=by show _=_;kernel_rfl
theorem Ev:xW.Ok PG 92:=aV (ae Eu (ax PG)) YC (by kernel_rfl)
theorem Gr (n) (a0) (a1):ru n (a0,a1) = (bif decide (a0.1=a1.1) then bif decide (a0.2.1=a1.2.1) then bif decide (a0.2.2.2=a1.2.2.2) then (rq (a0.2.2.1,a1.2.2.1)).bind fun r0=> some r0.1 else some false else some false else some false).bind fun x1=> some (x1,()):=by kernel_rfl
def Gs:TC:=
 (zS [nO 1 0] (zQ (.join [⟨2,[.b],false⟩] 262140 none (zR [oW 3,zDo 4 1 0 3 4,[o1 5 (.build jq [])],zEh 6 4 5,ai 7 6,mZ 8 4,rZ 9 1 4 8 4,O0 10 9 4,lT 7 10 11,mZ 13 9,Ty 14 1 5 13 4 9,[o2 15 (.build jf []) 9 true],xE 92 14 15 16 16 9,ql 12 16 17 2])) .ret))
def Gt:aO:=⟨[.rd true [.d,.d,.d,.d,.d,.d,.d,.sl (.own none) [.d,.d],.d]],(.one false [.d])⟩
def Gu:aN:=aG [(92,xW)]
def xX (n:Nat):(Int × Int × Int × Int × Int × Int × Int × List bG × Int)->Option ((Bool) × Unit):=aI n Gu Gs [Ty7] [.b] [] [2] .no
def xY:=xX BIG
def Gv:TSp:=⟨Gt,[Ty7],[.b],[],Ou.j .no,xY⟩
theorem YD:zK Gu 126 Gt Gs 18 .no [2]:=by show _=_;kernel_rfl
theorem V3:Gv.Ok PG 126:=aV (ae Ev (ax PG)) YD (by kernel_rfl)
theorem YE (n) (a0):xX n a0 = (bif (decide (a0.1=0)&&(decide (a0.2.1=0)&&(decide (a0.2.2.1=0)&&(decide (a0.2.2.2.1=0)&&true)))) then bif decide (a0.2.2.2.2.1=0) then (lq (a0.2.2.2.2.2,((0:Int),(0:Int),[],(0:Int)))).bind fun r0=> some r0.1 else some false else some false).bind fun x1=> some (x1,()):=by kernel_rfl
def YF:TC:=
 (zS [nO 3 1] (zQ (.seq (.join [⟨26,[.b],false⟩] 134217696 none (zR [ai 5 0,ug 6 32 5 12,jr 7 6,ai 8 7,Bo 9 3,OZ 10 3 0 9 3,XX 32 10 100000 11 11 3,oh 12 11 3 8,pE 15 9 3 1 9,XX 32 16 4 17 17 9,oh 18 17 9 14,iL 21 0 15,qi 22 15 3 2,F7 104 21 23 24 24 15,uH 25 24 15 20])) (zC 26 (zS [bH 4] .ret) .skip)) (zQ (zS [bV 27 3 1] (.block 0 (zS [TD 30 28 3] (zC 29 (zQ (.join [⟨4,[.b],false⟩] 4395899027472 none (zR [TF 31 3 2,yV 34 33 0,Gc 35 34 4 3 3 4,ik 38 0 4,Jg 39 38 4,zDs 32 37 39 40 40 4,ql 35 40 41 4])) .ret) (zS [xI 43 28 4 42] (zC 42 (zQ (.join [⟨4,[.b],false⟩] 8989607068696592 none (zR [TF 44 3 2,El 47 46 0,Gc 48 47 4 3 3 4,O0 51 50 4,ql 48 51 52 4])) .ret) .skip)))))) (zQ (.join [⟨4,[.b],false⟩] 4602678819172646928 none (zR [TF 53 3 2,yV 56 55 1,Gc 57 56 4 3 3 4,O0 60 59 4,ql 57 60 61 4])) .ret))))
def YG:aO:=⟨[.rd false [.d],.rd true Je],(.one false [.d])⟩
def YH:aN:=aG [(32,d9),(104,uK)]
def KQ (n:Nat):Int × zO->Option ((Bool) × Unit):=aI n YH YF [[.i .i64],jf] [.b] [] [4] .no
def xZ:=KQ BIG
def Dl:TSp:=⟨YG,[[.i .i64],jf],[.b],[],Ou.j .no,xZ⟩
theorem apE:zK YH 82 YG YF 62 .no [4]:=by show _=_;kernel_rfl
theorem Ib:Dl.Ok PG 82:=aV (ae dQ (ae xQ (ax PG))) apE (by kernel_rfl)
theorem apG (n) (a0) (a1):KQ n (a0,a1) = ((bD (a0,(1:Int),(12:Int))).bind fun r0=> bif !r0.1 then some true else (bD (a1.1,(1:Int),(100000:Int))).bind fun r1=> bif !r1.1 then some true else (bD (a1.2.1,(1:Int),(4:Int))).bind fun r2=> bif !r2.1 then some true else (qG (a0,a1.2.2.1)).bind fun r3=> some !r3.1).bind fun x4=> bif x4 then some (false,()) else bif decide (a1.2.1=3) then (bif decide ((a1.2.2.1.length:Int)=0) then (bD (a1.2.2.2,(0:Int),IntKind.wrap .i64 (a0-1))).bind fun r5=> some r5.1 else some false).bind fun x6=> some (x6,()) else bif decide (a1.2.1=4) then (bif decide (0<(a1.2.2.1.length:Int)) then some (decide (a1.2.2.2=0)) else some false).bind fun x7=> some (x7,()) else (bif decide ((a1.2.2.1.length:Int)=1) then some (decide (a1.2.2.2=0)) else some false).bind fun x8=> some (x8,()):=by kernel_rfl
def Ua:TC:=
 (zS [ek 2 0,nO 3 1] (zQ (.seq (.join [⟨17,[.b],false⟩] 262112 none (zR [lm 5 3 1 5,ug 7 32 6 4,jr 8 7,ai 9 8,pE 10 4 3 2 4,pE 12 4 2 0 4,zEm 14 13 4,zEn 32 11 14 15 15 4,uH 16 15 4 9])) (zC 17 (zS [bH 4] .ret) .skip)) (zQ (zS [bV 18 3 1] (.block 0 (zS [TD 21 19 4] (zC 20 (zS [Bu 22 3 3 2 3,mJ 26 25,[o3 27 32 [.t 23,kO 1,.t 26]],ai 4 27] .ret) (zS [xI 29 19 3 28] (zC 28 (zS [Bu 30 3 3 2 0,F8 34 33,zEa 35 32 31 34,ai 4 35] .ret) .skip)))))) (zQ (.join [⟨4,[.b],false⟩] 562881233944592 none (zR [Bu 36 3 3 2 0,F8 40 39,zEa 41 32 37 40,Gc 42 41 6 3 2 6,F9 45 6 3 3 6,zEp 47 44 46 6,ql 42 47 48 4])) .ret))))
def Ub:aO:=⟨[.rd true MR,.rd true [.d,.d,.d,.d]],(.one false [.d])⟩
def Uc:aN:=aG [(32,d9)]
def Ic (n:Nat):rf × BZ->Option ((Bool) × Unit):=aI n Uc Ua [gF,jq] [.b] [] [4] .no
def Ay:=Ic BIG
def Ie:TSp:=⟨Ub,[gF,jq],[.b],[],Ou.j .no,Ay⟩
theorem ak6:zK Uc 76 Ub Ua 49 .no [4]:=by show _=_;kernel_rfl
theorem Pq:Ie.Ok PG 76:=aV (ae dQ (ax PG)) ak6 (by kernel_rfl)
theorem ak7 (n) (a0) (a1):Ic n (a0,a1) = ((bD (a1.2.1,(1:Int),(4:Int))).bind fun r0=> bif !r0.1 then some true else (bD (a1.2.2.1,(0:Int),IntKind.wrap .i64 (a0.1-1))).bind fun r1=> some !r1.1).bind fun x2=> bif x2 then some (false,()) else bif decide (a1.2.1=4) then (bD (a1.2.2.2,(1:Int),(a0.2.2.2.1.length:Int))).bind fun r3=> some (r3.1,()) else bif decide (a1.2.1=3) then (bD (a1.2.2.2,(0:Int),IntKind.wrap .i64 (a0.1-1))).bind fun r4=> some (r4.1,()) else ((bD (a1.2.2.2,(0:Int),IntKind.wrap .i64 (a0.1-1))).bind fun r5=> bif r5.1 then some (!decide (a1.2.2.1=a1.2.2.2)) else some false).bind fun x6=> some (x6,()):=by kernel_rfl
def Ps:TC:=
 (zS [nO 1 0] (zS [oW 4,zDo 5 1 5 4 9,zEq 3 1000000004,jW 3 3 5] (zQ (zS [eF 6 3 9,jH 7 126 6] (zC 7 (zS [ic 2] .ret) .skip)) (zQ (.join [⟨2,[.b],false⟩] 2305843009213693700 none (zR [lm 8 3 4 8,TF 10 1 3,[o3 13 32 [.t 9,kO 1,.t 12]],Gc 14 13 6 1 0 6,mZ 17 6,Ty 18 3 5 17 4 6,xE 82 16 18 19 19 6,lT 14 19 20,mZ 22 13,Bq 23 22 13,rZ 24 3 5 23 13,X9 25 13 1 4 3 4,Jg 29 28 13,Cv 30 26 29 13,O1 31 26 1 30 13,zEt 32 31 1 13,zLu 33 24 32 13 21,zEu 36 1 15 27,mZ 37 27,Bq 38 37 27,rZ 39 3 0 38 27,xE 75 36 39 40 40 27,[o2 41 (.data (.bin .lss) [.t 40,kD 0]) 27 true],lT 35 41 42,zEu 44 1 15 35,mZ 45 35,Ty 46 3 0 45 4 35,xE 76 44 46 47 47 35,lT 43 47 48,mZ 50 41,Bq 51 50 41,rZ 52 3 1 51 41,[o2 53 (.data (.bin .neq) [.t 52,kD 3]) 41 true],lT 49 53 54,mZ 56 47,Bq 57 56 47,rZ 58 3 0 57 47,zEv 32 58 1 59 59 47,ql 55 59 60 2])) .ret))))
def Pv:aO:=⟨[.rd true MR],(.one false [.d])⟩
def Pw:aN:=aG [(126,Gv),(32,d9),(82,Dl),(75,Dk),(76,Ie)]
def Ew (n:Nat):rf->Option ((Bool) × Unit):=aI n Pw Ps [gF] [.b] [] [2] .no
def Ey:=Ew BIG
def Px:TSp:=⟨Pv,[gF],[.b],[],Ou.j .no,Ey⟩
theorem aim:zK Pw 106 Pv Ps 61 .no [2]:=by show _=_;kernel_rfl
theorem afU:Px.Ok PG 106:=aV (ae V3 (ae dQ (ae Ib (ae Ia (ae Pq (ax PG)))))) aim (by kernel_rfl)
theorem ain (n) (a0):Ew n a0 = (xY (a0.2.2.2.2.2.1,a0.2.2.2.2.2.2.1,a0.2.2.2.2.2.2.2.1,a0.2.2.2.2.2.2.2.2.1,a0.2.2.2.2.2.2.2.2.2.1,a0.2.2.2.2.2.2.2.2.2.2.1,a0.2.2.2.2.2.2.2.2.2.2.2.1,a0.2.2.2.2.2.2.2.2.2.2.2.2.1,a0.2.2.2.2.2.2.2.2.2.2.2.2.2.1)).bind fun r0=> bif r0.1 then some (true,()) else ((bD (a0.2.2.2.2.2.2.2.2.2.1,(1:Int),(a0.2.2.2.1.length:Int))).bind fun r1=> bif r1.1 then (xZ (a0.1,(a0.2.2.2.2.2.2.2.2.2.2.1,a0.2.2.2.2.2.2.2.2.2.2.2.1,a0.2.2.2.2.2.2.2.2.2.2.2.2.1,a0.2.2.2.2.2.2.2.2.2.2.2.2.2.1))).bind fun r2=> bif r2.1 then bnd a0.2.2.2.2.1.length (IntKind.wrap .i64 (a0.2.2.2.2.2.2.2.2.2.1-1)) fun n3=> a0.2.2.2.2.1[n3]?.bind fun y4=> bif decide (a0.2.2.2.2.2.2.2.2.2.2.1=(IntKind.wrap .i64 (y4+1))) then (xS (a0,a0.2.2.2.2.2.1)).bind fun r5=> bif decide (r5.1<0) then (Ay (a0,(a0.2.2.2.2.2.1,a0.2.2.2.2.2.2.1,a0.2.2.2.2.2.2.2.1,a0.2.2.2.2.2.2.2.2.1))).bind fun r6=> bif r6.1 then bif !decide (a0.2.2.2.2.2.2.1=3) then (bD (a0.2.2.2.2.2.1,(1:Int),(100000:Int))).bind fun r7=> some r7.1 else some false else some false else some false else some false else some false else some false).bind fun x8=> some (x8,()):=by kernel_rfl
def ad3:TC:=
 (zS [nO 1 0] (zQ (.seq (.join [⟨49,[.b],false⟩] 1125899906842368 none (zR [lm 8 1 0 8,ug 10 32 9 12,Cw 11 10,pE 13 4 1 3 4,Ji 15 14 4,XX 32 15 3 16 16 4,oh 17 16 4 12,qi 20 11 1 4,Ji 22 21 11,qi 23 11 1 3,Ji 25 24 11,MU 26 22 25 11,Jn 19 26 27,qi 29 20 1 1,Ji 31 30 20,qi 32 20 1 0,MU 34 31 33 20,Jn 28 34 35,qi 37 28 1 0,qi 39 28 1 2,F7 104 38 40 41 41 28,oh 42 41 28 36,qi 45 36 1 14,Ji 47 46 36,Jh 48 47 80 36,xD 44 48 49])) (zC 49 (zS [bH 2] .ret) .skip)) (zQ (.join [] 37778930737057254866956 (some [⟨2,[.b],false⟩]) (zS [bN 3] (.block 0 (.loop [⟨3,[.i .i64],false⟩] 37778930737057254866956 (zQ (zS [O7 50 3 1 3 53] (zC 54 .skip (.exit 0))) (zQ (.join [] 37778787747769085853700 (some [⟨2,[.b],false⟩]) (.block 1 (zQ (.join [⟨74,[.b],false⟩] 37778787747769085853696 none (zR [ai 61 3,Bu 57 1 0 1 3,ui 62 60 61 1,lQ 64 105 58 63,Cw 65 64,pE 67 9 1 4 9,zLt 69 3 9 68 9,zEc 71 68 1 70 9,zEx 32 71 0 99991 72 72 9,uH 73 72 9 66])) (zC 74 (zS [bH 2] .ret) .skip)))) (zR [gJ 55 3 3]))))))) (zQ (.join [] 2475842299638897592636538900 (some [⟨2,[.b],false⟩]) (zS [bN 4] (.block 2 (.loop [⟨4,[.i .i64],false⟩] 2475842299638897592636538900 (zQ (zS [Ga 75 4 1 0,mf 78 75 77] (zC 78 .skip (.exit 2))) (zQ (.block 3 (zS [ai 83 4,bV 81 1 1,ui 84 82 83 1,TF 86 1 3,[o3 89 32 [.t 85,kO 1,.t 88]],jr 90 89] (zC 90 (zS [bH 2] .ret) .skip))) (zR [gJ 79 4 4]))))))) (zQ (.join [] 664613995416577857881142980341923876 (some [⟨2,[.b],false⟩]) (zS [bN 5] (.block 4 (.loop [⟨5,[.i .i64],false⟩] 664613995416577857881142980341923876 (zQ (zS [O7 91 5 1 2 94] (zC 95 .skip (.exit 4))) (zQ (.block 5 (zS [ai 102 5,ai 112 5,Bu 98 1 1 1 2,Jk 103 101 102 2,ui 106 99 105 1,Bu 108 1 1 1 2,O5 113 111 112 2 1,ui 116 109 115 1,Bp 118 107 117] (zC 118 (zS [bH 2] .ret) .skip))) (zR [gJ 96 5 5]))))))) (zQ (.join [] 2854495384747305764224114002447086742625321156 (some [⟨2,[.b],false⟩]) (zS [bN 6] (.block 6 (.loop [⟨6,[.i .i64],false⟩] 2854495384747305764224114002447086742625321156 (zQ (zS [O7 119 6 1 14 122] (zC 123 .skip (.exit 6))) (zQ (.join [] 2854495300341328031881956073055338414823440516 (some [⟨2,[.b],false⟩]) (.block 7 (zS [xK 126 1 14 6,uJ 129 127 128 6 6,[o5 (.a (.c Ty8 [kV 0,kV 0,kV 0,kV 0,kV 0,kV 0])) 7 1000000008],jW 7 7 130] (zQ (.join [⟨150,[.b],false⟩] 2854492663152984394608864231902130818619801600 none (zR [bV 131 7 0,M0 133,Bn 135 7 1 134,X0 136 132 135,ai 137 136,pE 138 6 7 5 6,XX 32 139 3 140 140 6,oh 141 140 6 137,MV 144 1 15 12,qi 145 12 7 0,F7 75 144 146 147 147 12,iL 148 6 12,MU 149 147 148 12,xD 143 149 150])) (zC 150 (zS [bH 2] .ret) .skip))))) (zR [gJ 124 6 6]))))))) (zS [M3 151 1 15 106,ai 2 152] .ret)))))))
def ad4:aO:=⟨[.rd true MR],(.one false [.d])⟩
def ad5:aN:=aG [(32,d9),(104,uK),(105,Et),(75,Dk),(106,Px)]
def Py (n:Nat):rf->Option ((Bool) × Unit):=aI n ad5 ad3 [gF] [.b] [] [2] .no
def Gw:=Py BIG
def Pz:TSp:=⟨ad4,[gF],[.b],[],Ou.j .no,Gw⟩
theorem att:zK ad5 74 ad4 ad3 153 .no [2]:=by show _=_;kernel_rfl
theorem YI:Pz.Ok PG 74:=aV (ae dQ (ae xQ (ae Nc (ae Ia (ae afU (ax PG)))))) att (by kernel_rfl)
theorem atu (n) (a0):Py n a0 =
 ((bD (a0.1,(1:Int),(12:Int))).bind fun r0=>
  bif !r0.1 then
   some true
  else (bD ((a0.2.2.2.1.length:Int),(1:Int),(3:Int))).bind fun r1=>
  bif !r1.1 then
   some true
  else bif !decide ((a0.2.2.2.2.1.length:Int)=(a0.2.2.2.1.length:Int)) then
   some true
  else bif !decide ((a0.2.1.length:Int)=a0.1) then
   some true
  else (qG (a0.1,a0.2.2.1)).bind fun r2=>
  bif !r2.1 then
   some true
  else some (decide (80<(a0.2.2.2.2.2.2.2.2.2.2.2.2.2.2.length:Int)))).bind fun x3=>
 bif x3 then
  some (false,())
 else (aU n (X:=Int) (B:=(Unit) ⊕ (Bool)) (fun self5 x4=>
  bif decide (x4<(a0.2.2.2.1.length:Int)) then
   ((bnd a0.2.2.2.1.length x4 fun n6=>
    a0.2.2.2.1[n6]?.bind fun y7=>
    (xR (a0.1,y7)).bind fun r8=>
    bif !r8.1 then
     some true
    else bnd a0.2.2.2.2.1.length x4 fun n9=>
    a0.2.2.2.2.1[n9]?.bind fun y10=>
    (bD (y10,(0:Int),(99991:Int))).bind fun r11=>
    some !r11.1).bind fun x12=>
    bif x12 then
     some (Sum.inr false)
    else some (Sum.inl ())).bind fun y=>match y with
   | .inl x13=>
    self5 (IntKind.wrap .i64 (x4+1))
   | .inr x13=>
    some (Sum.inr x13)
  else some (Sum.inl ())) (0:Int)).bind fun y=>match y with
 | .inl x14=>
  (aU n (X:=Int) (B:=(Unit) ⊕ (Bool)) (fun self16 x15=>
   bif decide (x15<a0.1) then
    bnd a0.2.1.length x15 fun n17=>
    a0.2.1[n17]?.bind fun y18=>
    (bD (y18,(1:Int),(a0.2.2.2.1.length:Int))).bind fun r19=>
    bif !r19.1 then
     some (Sum.inr false)
    else self16 (IntKind.wrap .i64 (x15+1))
   else some (Sum.inl ())) (0:Int)).bind fun y=>match y with
  | .inl x20=>
   (aU n (X:=Int) (B:=(Unit) ⊕ (Bool)) (fun self22 x21=>
    bif decide (x21<(a0.2.2.1.length:Int)) then
     bnd a0.2.2.1.length x21 fun n23=>
     a0.2.2.1[n23]?.bind fun y24=>
     bnd a0.2.1.length y24.1 fun n25=>
     a0.2.1[n25]?.bind fun y26=>
     bnd a0.2.2.1.length x21 fun n27=>
     a0.2.2.1[n27]?.bind fun y28=>
     bnd a0.2.1.length y28.2 fun n29=>
     a0.2.1[n29]?.bind fun y30=>
     bif decide (y26=y30) then
      some (Sum.inr false)
     else self22 (IntKind.wrap .i64 (x21+1))
    else some (Sum.inl ())) (0:Int)).bind fun y=>match y with
   | .inl x31=>
    (aU n (X:=Int) (B:=(Unit) ⊕ (Bool)) (fun self33 x32=>
     bif decide (x32<(a0.2.2.2.2.2.2.2.2.2.2.2.2.2.2.length:Int)) then
      (bnd a0.2.2.2.2.2.2.2.2.2.2.2.2.2.2.length x32 fun n34=>
       a0.2.2.2.2.2.2.2.2.2.2.2.2.2.2[n34]?.bind fun y35=>
       (bif !decide (y35.1=y35.2.1) then
        some true
        else (bD (y35.2.2.2.2.2,(1:Int),(3:Int))).bind fun r36=>
        bif !r36.1 then
         some true
        else (xS (a0,y35.1)).bind fun r37=>
        some (!decide (r37.1=x32))).bind fun x38=>
       bif x38 then
        some (Sum.inr false)
       else some (Sum.inl ())).bind fun y=>match y with
      | .inl x39=>
       self33 (IntKind.wrap .i64 (x32+1))
      | .inr x39=>
       some (Sum.inr x39)
     else some (Sum.inl ())) (0:Int)).bind fun y=>match y with
    | .inl x40=>
     (Ey a0).bind fun r41=>
     some (r41.1,())
    | .inr x40=>
     some (x40,())
   | .inr x31=>
    some (x31,())
  | .inr x20=>
   some (x20,())
 | .inr x14=>
  some (x14,()):=by kernel_rfl
def ad6:TC:=
 (zS [ek 4 1] (zS [dZ 6,dZ 7,ai 14 2,Tw 8 7,Jf 9 8,zBt 10 0 14 9,bV 11 4 0,eF 13 4 4,zEz,[o1 16 (.sli Ty8 [.t 15])],zBu 10 10 16 17 10 10 0 17,xF 18 6,zBv 0 17 10 0 14 19 17] (zR [dZ 20,[o1 21 (.build Ty7 [])],xF 22 20,zEA 0 21 0 5 23 21])))
def ad7:aO:=⟨[.mp MR,.rd true [.d,.d,.d,.d],.rd false [.d]],.u⟩
def ad8:aN:=aG []
def PD (n:Nat):rf × BZ × Int->Option ((Unit) × Int × List Int × List bG × List (List Int) × List Int × Int × Int × Int × Int × Int × Int × Int × List bG × Int × List VW):=aI n ad8 ad6 [gF,jq,[.i .i64]] [] gF [] (.mp 0)
def pF:=PD BIG
def Gx:TSp:=⟨ad7,[gF,jq,[.i .i64]],[],gF,Ou.j (.mp 0),pF⟩
theorem atv:zK ad8 77 ad7 ad6 24 (.mp 0) []:=by show _=_;kernel_rfl
theorem KR:Gx.Ok PG 77:=aV (ax PG) atv (by kernel_rfl)
theorem atw (n) (a0) (a1) (a2):PD n (a0,a1,a2) = bif decide (a0.2.2.2.2.2.2.2.2.2.2.2.2.2.2.length+([(a1.1,a1.1,a1.2.1,a1.2.2.1,a1.2.2.2,a2)]).length<=4294967296) then some ((),(a0.1,a0.2.1,a0.2.2.1,a0.2.2.2.1,a0.2.2.2.2.1,(0:Int),(0:Int),(0:Int),(0:Int),(0:Int),(0:Int),(0:Int),[],(0:Int),a0.2.2.2.2.2.2.2.2.2.2.2.2.2.2++([(a1.1,a1.1,a1.2.1,a1.2.2.1,a1.2.2.2,a2)]))) else none:=by kernel_rfl
def Jp:TC:=
 (zS [zBb 6,bH 7] (zS [XY 12,dh 12 8 12] (zQ (.seq (.join [⟨25,[.b],false⟩] 67100672 none (zR [ai 13 0,ug 14 32 13 12,Gb 15 14 1 3,Ji 18 17 3,Jh 19 18 3 3,Jn 16 19 20,iL 22 2 8,Ji 23 22 8,Jh 24 23 1000 8,xD 21 24 25])) (zC 25 (zS [TB 26 6,bH 7] .ret) .skip)) (zQ (.join [⟨8,[.sl [.i .i64,.i .i64]],false⟩] 302231454903657159460800 (some [⟨6,[.sl [.i .i64]],false⟩,⟨7,[.b],false⟩]) (zS [bN 9] (.block 0 (.loop [⟨8,[.sl [.i .i64,.i .i64]],false⟩,⟨9,[.i .i64],false⟩] 302231454903657159460800 (zQ (zS [Jl 27 9 1] (zC 30 .skip (.exit 0))) (zQ (.join [⟨8,[.sl [.i .i64,.i .i64]],false⟩] 302231454903648703743424 (some [⟨6,[.sl [.i .i64]],false⟩,⟨7,[.b],false⟩]) (.block 1 (zQ (zS [O6 33 1 9 1,mJ 37 36,ai 38 0,X0 39 37 38] (zC 39 (zS [TB 40 6,bH 7] .ret) .skip)) (zS [bN 10] (.block 2 (.loop [⟨8,[.sl [.i .i64,.i .i64]],false⟩,⟨10,[.i .i64],false⟩] 302231454901458270422464 (zQ (zS [MZ 41 10 0] (zC 43 .skip (.exit 2))) (zQ (.join [⟨8,[.sl [.i .i64,.i .i64]],false⟩] 302231454833288549499328 (some [⟨6,[.sl [.i .i64]],false⟩,⟨7,[.b],false⟩]) (.block 3 (zQ (zS [O6 46 1 9 1,ai 50 10,ui 51 49 50 1,ai 53 10,zEa 54 32 52 53,jr 55 54] (zC 55 (zS [TB 56 6,bH 7] .ret) .skip)) (zS [O6 57 1 9 1,ai 61 10,ui 62 60 61 1,ai 64 10,mf 65 63 64] (zC 65 (zR [dh 8 66 8,O6 67 1 9 1,ai 71 10,ui 72 70 71 1,ai 74 10,zEB 75 73 74,X_ 76 75 66 66 8]) .skip))))) (zR [O9 44 10]))))))))) (zR [gJ 31 9 9]))))))) (zQ (.join [⟨8,[.sl [.i .i64,.i .i64]],false⟩] 633824997882659797091057928640 (some [⟨6,[.sl [.i .i64]],false⟩,⟨7,[.b],false⟩]) (zS [bN 11] (.block 4 (.loop [⟨8,[.sl [.i .i64,.i .i64]],false⟩,⟨11,[.i .i64],false⟩] 633824997882659797091057928640 (zQ (zS [Jl 78 11 2] (zC 81 .skip (.exit 4))) (zQ (.block 5 (zQ (zS [dC 84 0 2,ai 86 11,uJ 87 85 86 2 2,lQ 89 107 84 88,jr 90 89] (zC 90 (zS [TB 91 6,bH 7] .ret) .skip)) (zR [dh 8 92 8,Tz 93 2 11 2 2,X_ 97 96 92 92 8]))) (zR [O9 82 11]))))))) (zS [ai 99 0,dh 8 100 8,qj 101 70 99 100 6,ic 7] .ret))))))
def Jq:aO:=⟨[.rd false [.d],.rd false [.sl (.own none) jP],.rd false oV],(.tup [(false,1),(false,1)] awr)⟩
def Jr:aN:=aG [(32,d9),(107,Bz),(70,Er)]
def zP (n:Nat):Int × List (List Int) × (List bG)->Option ((List Int × Bool) × Unit):=aI n Jr Jp [[.i .i64],[.sl [.sl [.i .i64]]],[.sl [.i .i64,.i .i64]]] [.sl [.i .i64],.b] [] [6,7] .no
def zU:=zP BIG
def Js:TSp:=⟨Jq,[[.i .i64],[.sl [.sl [.i .i64]]],[.sl [.i .i64,.i .i64]]],[.sl [.i .i64],.b],[],Ou.j .no,zU⟩
theorem acs:zK Jr 78 Jq Jp 102 .no [6,7]:=by show _=_;kernel_rfl
theorem YJ:Js.Ok PG 78:=aV (ae dQ (ae Dj (ae M7 (ax PG)))) acs (by kernel_rfl)
theorem acu (n) (a0) (a1) (a2):zP n (a0,a1,a2) =
 ((bD (a0,(1:Int),(12:Int))).bind fun r0=>
  bif !r0.1 then
   some true
  else bif decide (3<(a1.length:Int)) then
   some true
  else some (decide (1000<(a2.length:Int)))).bind fun x1=>
 bif x1 then
  some (([],false),())
 else (aU n (X:=(List bG) × Int) (B:=((List bG)) ⊕ ((List Int) × Bool)) (fun self3 x2=>
  bif decide (x2.2<(a1.length:Int)) then
   (bnd a1.length x2.2 fun n4=>
    a1[n4]?.bind fun y5=>
    bif !decide ((y5.length:Int)=a0) then
     some (Sum.inr ([],false))
    else aU n (X:=(List bG) × Int) (B:=((List bG)) ⊕ ((List Int) × Bool)) (fun self7 x6=>
     bif decide (x6.2<a0) then
      (bnd a1.length x2.2 fun n8=>
       a1[n8]?.bind fun y9=>
       bnd y9.length x6.2 fun n10=>
       y9[n10]?.bind fun y11=>
       (bD (y11,(0:Int),x6.2)).bind fun r12=>
       bif !r12.1 then
        some (Sum.inr ([],false))
       else bnd a1.length x2.2 fun n13=>
       a1[n13]?.bind fun y14=>
       bnd y14.length x6.2 fun n15=>
       y14[n15]?.bind fun y16=>
       bif decide (y16<x6.2) then
        bnd a1.length x2.2 fun n17=>
        a1[n17]?.bind fun y18=>
        bnd y18.length x6.2 fun n19=>
        y18[n19]?.bind fun y20=>
        bif decide (x6.1.length+([(y20,x6.2)]).length<=4294967296) then
         some (Sum.inl (x6.1++([(y20,x6.2)])))
        else none
       else some (Sum.inl x6.1):Option (((List bG)) ⊕ ((List Int) × Bool))).bind fun y=>match y with
      | .inl x21=>
       self7 (x21,IntKind.wrap .i64 (x6.2+1))
      | .inr x21=>
       some (Sum.inr (x21.1,x21.2))
     else some (Sum.inl x6.1)) (x2.1,(0:Int)):Option (((List bG)) ⊕ ((List Int) × Bool))).bind fun y=>match y with
   | .inl x22=>
    self3 (x22,IntKind.wrap .i64 (x2.2+1))
   | .inr x22=>
    some (Sum.inr (x22.1,x22.2))
  else some (Sum.inl x2.1)) ([],(0:Int))).bind fun y=>match y with
 | .inl x23=>
  (aU n (X:=(List bG) × Int) (B:=((List bG)) ⊕ ((List Int) × Bool)) (fun self25 x24=>
   bif decide (x24.2<(a2.length:Int)) then
    bnd a2.length x24.2 fun n26=>
    a2[n26]?.bind fun y27=>
    (wH (a0,y27)).bind fun r28=>
    bif !r28.1 then
     some (Sum.inr ([],false))
    else bnd a2.length x24.2 fun n29=>
    a2[n29]?.bind fun y30=>
    bif decide (x24.1.length+[y30].length<=4294967296) then
     self25 (x24.1++[y30],IntKind.wrap .i64 (x24.2+1))
    else none
   else some (Sum.inl x24.1)) (x23,(0:Int))).bind fun y=>match y with
  | .inl x31=>
   (xL (a0,x31)).bind fun r32=>
   some ((r32.1,true),())
  | .inr x31=>
   some (x31,())
 | .inr x23=>
  some (x23,()):=by kernel_rfl
def YK:TC:=
 (zS [ek 5 1,[o5 (.a (.t 3)) 7 3],bN 8] (zS [dZ 9,TG 10 9 0 4,ai 13 2,F8 14 13,Ya 15 12 14 0 4 1,xC 17 16,xJ 18 7 7 0 17] (zS [dZ 19,eF 20 5 4,ai 21 2,lS 22 7 4,zEE,xF 24 19,zGa] (zS [uh 8 2] .ret))))
def YL:aO:=⟨[.mp MR,.rd true [.d,.d,.d,.d],.rd false [.d],.tk true Je],(.one false [.d])⟩
def YM:aN:=aG []
def KS (n:Nat):rf × BZ × Int × zO->Option ((Int) × Int × List Int × List bG × List (List Int) × List Int × Int × Int × Int × Int × Int × Int × Int × List bG × Int × List VW):=aI n YM YK [gF,jq,[.i .i64],jf] [.i .i64] gF [8] (.mp 0)
def Dm:=KS BIG
def KU:TSp:=⟨YL,[gF,jq,[.i .i64],jf],[.i .i64],gF,Ou.j (.mp 0),Dm⟩
theorem apH:zK YM 79 YL YK 26 (.mp 0) [8]:=by show _=_;kernel_rfl
theorem Ud:KU.Ok PG 79:=aV (ax PG) apH (by kernel_rfl)
theorem apI (n) (a0) (a1) (a2) (a3):KS n (a0,a1,a2,a3) = bnd a0.2.2.2.2.1.length (IntKind.wrap .i64 (a2-1)) fun n0=> a0.2.2.2.2.1[n0]?.bind fun y1=> some ((2:Int),(a0.1,a0.2.1,a0.2.2.1,a0.2.2.2.1,a0.2.2.2.2.1,a1.1,a1.2.1,a1.2.2.1,a1.2.2.2,a2,IntKind.wrap .i64 (y1+1),a3.2.1,a3.2.2.1,a3.2.2.2,a0.2.2.2.2.2.2.2.2.2.2.2.2.2.2)):=by kernel_rfl
def YN:TC:=
 (zS [ek 1 0,zGb 2 1000000003] (zQ (zS [lm 3 1 2 3,lm 5 1 3 5,mf 7 4 6] (zC 7 (zS [lm 8 1 2 8,bV 10 1 3,zEB 12 9 11,jW 2 2 12] .ret) .skip)) (zS [Bu 13 1 3 1 2,zEB 17 14 16,jW 2 2 17] .ret)))
def YO:aO:=⟨[.rd true [.d,.d,.d,.d]],(.one true [.d,.d])⟩
def YP:aN:=aG []
def KV (n:Nat):BZ->Option (bG × Unit):=aI n YP YN [jq] [.i .i64,.i .i64] [] [2] .no
def KW:=KV BIG
def YQ:TSp:=⟨YO,[jq],[.i .i64,.i .i64],[],Ou.j .no,KW⟩
theorem apJ:zK YP 108 YO YN 18 .no [2]:=by show _=_;kernel_rfl
theorem ak8:YQ.Ok PG 108:=aV (ax PG) apJ (by kernel_rfl)
theorem apK (n) (a0):KV n a0 = bif decide (a0.2.2.1<a0.2.2.2) then some (a0.2.2,()) else some ((a0.2.2.2,a0.2.2.1),()):=by kernel_rfl
def ad9:TC:=
 (zS [nO 3 1] (zQ (.join [] 262128 (some [⟨4,[.b],false⟩]) (zS [bN 5] (.block 0 (.loop [⟨5,[.i .i64],false⟩] 262128 (zQ (zS [dC 6 5 0,mJ 8 7,mf 9 6 8] (zC 9 .skip (.exit 0))) (zQ (.block 1 (zS [Tz 12 0 5 2 2,eF 16 3 2,[o1 17 (.eqA [.i,.i] (.t 15) (.t 16) false)]] (zC 17 (zS [ic 4] .ret) .skip))) (zR [gJ 10 5 5]))))))) (zS [bH 4] .ret)))
def ad_:aO:=⟨[.rd false oV,.rd true [.d,.d]],(.one false [.d])⟩
def aea:aN:=aG []
def PE (n:Nat):(List bG) × bG->Option ((Bool) × Unit):=aI n aea ad9 [[.sl [.i .i64,.i .i64]],[.i .i64,.i .i64]] [.b] [] [4] .no
def wI:=PE BIG
def BB:TSp:=⟨ad_,[[.sl [.i .i64,.i .i64]],[.i .i64,.i .i64]],[.b],[],Ou.j .no,wI⟩
theorem atx:zK aea 109 ad_ ad9 18 .no [4]:=by show _=_;kernel_rfl
theorem Dp:BB.Ok PG 109:=aV (ax PG) atx (by kernel_rfl)
theorem aty (n) (a0) (a1):PE n (a0,a1) = (aU n (X:=Int) (B:=(Unit) ⊕ (Bool)) (fun self1 x0=> bif decide (x0<(a0.length:Int)) then bnd a0.length x0 fun n2=> a0[n2]?.bind fun y3=> bif (decide (y3.1=a1.1)&&(decide (y3.2=a1.2)&&true)) then some (Sum.inr true) else self1 (IntKind.wrap .i64 (x0+1)) else some (Sum.inl ())) (0:Int)).bind fun y=>match y with | .inl x4=> some (false,()) | .inr x4=> some (x4,()):=by kernel_rfl
def Nf:TC:=
 (zS [ek 3 1,zGc 4] (zS [XY 7,dh 7 5 7] (zQ (.join [⟨5,[.sl [.i .i64,.i .i64]],false⟩] 134217568 none (zS [bN 6] (.block 0 (.loop [⟨5,[.sl [.i .i64,.i .i64]],false⟩,⟨6,[.i .i64],false⟩] 134217568 (zQ (zS [dC 8 6 0,qZ 10 9 8] (zC 11 .skip (.exit 0))) (zQ (.join [⟨5,[.sl [.i .i64,.i .i64]],false⟩] 134201376 none (.block 1 (zS [Tz 14 0 6 2 2,eF 18 3 2,[o1 19 (.eqA [.i,.i] (.t 17) (.t 18) true)]] (zC 19 (zR [dh 5 20 5,Tz 21 0 6 2 2,X_ 25 24 20 20 5]) .skip)))) (zR [gJ 12 6 6]))))))) (zS [Cx 5 27 5 4] .ret))))
def Ng:aO:=⟨[.rd false oV,.rd true [.d,.d]],(.one false oV)⟩
def Nh:aN:=aG []
def Ca (n:Nat):(List bG) × bG->Option ((List bG) × Unit):=aI n Nh Nf [[.sl [.i .i64,.i .i64]],[.i .i64,.i .i64]] [.sl [.i .i64,.i .i64]] [] [4] .no
def vk:=Ca BIG
def Cb:TSp:=⟨Ng,[[.sl [.i .i64,.i .i64]],[.i .i64,.i .i64]],[.sl [.i .i64,.i .i64]],[],Ou.j .no,vk⟩
theorem afV:zK Nh 110 Ng Nf 28 .no [4]:=by show _=_;kernel_rfl
theorem Jt:Cb.Ok PG 110:=aV (ax PG) afV (by kernel_rfl)
theorem afW (n) (a0) (a1):Ca n (a0,a1) = (aU n (X:=(List bG) × Int) (B:=(List bG)) (fun self1 x0=> bif decide (x0.2<(a0.length:Int)) then (bnd a0.length x0.2 fun n2=> a0[n2]?.bind fun y3=> bif !(decide (y3.1=a1.1)&&(decide (y3.2=a1.2)&&true)) then bnd a0.length x0.2 fun n4=> a0[n4]?.bind fun y5=> bif decide (x0.1.length+[y5].length<=4294967296) then some (x0.1++[y5]) else none else some x0.1:Option ((List bG))).bind fun x6=> self1 (x6,IntKind.wrap .i64 (x0.2+1)) else some x0.1) ([],(0:Int))).bind fun x7=> some (x7,()):=by kernel_rfl
def aeb:TC:=
 (zS [ek 3 1,zGc 4] (zS [XY 8,dh 8 5 8] (zQ (.join [⟨5,[.sl [.i .i64,.i .i64]],false⟩] 268435040 none (zS [bN 6] (.block 0 (.loop [⟨5,[.sl [.i .i64,.i .i64]],false⟩,⟨6,[.i .i64],false⟩] 268435040 (zQ (zS [dC 9 6 0,qZ 11 10 9] (zC 12 .skip (.exit 0))) (zQ (.join [⟨5,[.sl [.i .i64,.i .i64]],false⟩] 268402720 none (.block 1 (zS [Tz 15 0 6 2 2,Jo 19 3 2 125 18] (zC 20 (zR [dh 5 21 5,Tz 22 0 6 2 2,X_ 26 25 21 21 5]) .skip)))) (zR [gJ 13 6 6]))))))) (zS [dh 5 28 5,eF 29 3 2,X_ 30 29 28 28 5] (zQ (.join [⟨5,[.sl [.i .i64,.i .i64]],false⟩] 2251795518718112 none (zS [bN 7] (.block 2 (.loop [⟨5,[.sl [.i .i64,.i .i64]],false⟩,⟨7,[.i .i64],false⟩] 2251795518718112 (zQ (zS [Jl 32 7 0] (zC 35 .skip (.exit 2))) (zQ (.join [⟨5,[.sl [.i .i64,.i .i64]],false⟩] 2251524935778336 none (.block 3 (zS [dC 39 0 7,eF 38 3 2,uJ 41 39 40 2 2,lQ 43 125 38 42] (zC 43 (zR [dh 5 44 5,Tz 45 0 7 2 2,X_ 49 48 44 44 5]) .skip)))) (zR [gJ 36 7 7]))))))) (zS [Cx 5 51 5 4] .ret))))))
def aec:aO:=⟨[.rd false oV,.rd true [.d,.d]],(.one false oV)⟩
def aed:aN:=aG [(125,KO)]
def PH (n:Nat):(List bG) × bG->Option ((List bG) × Unit):=aI n aed aeb [[.sl [.i .i64,.i .i64]],[.i .i64,.i .i64]] [.sl [.i .i64,.i .i64]] [] [4] .no
def BC:=PH BIG
def Gy:TSp:=⟨aec,[[.sl [.i .i64,.i .i64]],[.i .i64,.i .i64]],[.sl [.i .i64,.i .i64]],[],Ou.j .no,BC⟩
theorem atz:zK aed 111 aec aeb 52 .no [4]:=by show _=_;kernel_rfl
theorem KX:Gy.Ok PG 111:=aV (ae TW (ax PG)) atz (by kernel_rfl)
theorem atA (n) (a0) (a1):PH n (a0,a1) = (aU n (X:=(List bG) × Int) (B:=(List bG)) (fun self1 x0=> bif decide (x0.2<(a0.length:Int)) then (bnd a0.length x0.2 fun n2=> a0[n2]?.bind fun y3=> (xP (y3,a1)).bind fun r4=> bif r4.1 then bnd a0.length x0.2 fun n5=> a0[n5]?.bind fun y6=> bif decide (x0.1.length+[y6].length<=4294967296) then some (x0.1++[y6]) else none else some x0.1:Option ((List bG))).bind fun x7=> self1 (x7,IntKind.wrap .i64 (x0.2+1)) else some x0.1) ([],(0:Int))).bind fun x8=> bif decide (x8.length+[a1].length<=4294967296) then (aU n (X:=(List bG) × Int) (B:=(List bG)) (fun self10 x9=> bif decide (x9.2<(a0.length:Int)) then (bnd a0.length x9.2 fun n11=> a0[n11]?.bind fun y12=> (xP (a1,y12)).bind fun r13=> bif r13.1 then bnd a0.length x9.2 fun n14=> a0[n14]?.bind fun y15=> bif decide (x9.1.length+[y15].length<=4294967296) then some (x9.1++[y15]) else none else some x9.1:Option ((List bG))).bind fun x16=> self10 (x16,IntKind.wrap .i64 (x9.2+1)) else some x9.1) (x8++[a1],(0:Int))).bind fun x17=> some (x17,()) else none:=by kernel_rfl
def PI:TC:=
 (zS [ek 3 1,bN 4] (zS [eF 8 3 4,jH 9 108 8,zGb 5 1000000006,jW 5 5 9] (zS [uh 6 1] (zQ (.join [⟨6,[.i .i64],false⟩] 7232 none (zS [bV 10 3 1,yV 12 11 2] (zC 12 (zR [uh 6 2]) .skip))) (zQ (zS [dZ 13,dZ 21,TG 14 13 0 1,bV 17 5 0,Ya 19 16 18 0 1 1,TG 22 21 0 1,bV 25 5 1,Ya 27 24 26 0 1 1,Bp 29 20 28] (zC 29 (zS [dZ 30,dZ 32,ai 40 6,eF 31 3 4,TG 33 32 0 1,bV 36 5 0,Ya 38 35 37 0 1 1,eF 41 5 2,zEC 42 41,[o5 (.build jf [(1,.t 40),(2,.t 42)]) 43 42,⟨false,[],[],.call 3 79 [.t 0,.t 31,.t 39,.t 43] (.mp 0),[44,0,43,16,19,24,27,38,35],(some 44),none⟩],ai 4 44] .ret) .skip)) (zS [dZ 45,TG 46 45 0 2,Jo 49 5 2 109 48,ai 7 50] (zQ (zS [Ga 51 7 3 1,yV 54 53 1,[o1 55 (.data (.beq false) [.t 51,.t 54])]] (zC 55 (zS [dZ 56,eF 57 3 4,[⟨false,[],[],.call 2 77 [.t 0,.t 57,kO 2] (.mp 0),[58,0,16,19,24,27,48],(some 58),none⟩]] (zS [uh 4 1] .ret)) .skip)) (zQ (.join [⟨0,gF,false⟩] 302230878724380118548481 none (zS [ai 59 7] (zC 59 (zR [dZ 60,dZ 61,TG 62 61 0 2,Jo 65 5 2 110 64,xF 67 60,zGd 66 64 68 66]) (zR [dZ 69,dZ 70,TG 71 70 0 2,Jo 74 5 2 111 73,xF 76 69,zGd 75 73 77 75])))) (zS [dZ 78,eF 79 3 4,zGe 77 0 79 1 80 0 80] (zS [uh 4 1] .ret))))))))))
def PL:aO:=⟨[.mp MR,.rd true [.d,.d,.d,.d]],(.one false [.d])⟩
def PN:aN:=aG [(108,YQ),(79,KU),(109,BB),(77,Gx),(110,Cb),(111,Gy)]
def Ez (n:Nat):rf × BZ->Option ((Int) × Int × List Int × List bG × List (List Int) × List Int × Int × Int × Int × Int × Int × Int × Int × List bG × Int × List VW):=aI n PN PI [gF,jq] [.i .i64] gF [4] (.mp 0)
def EA:=Ez BIG
def PP:TSp:=⟨PL,[gF,jq],[.i .i64],gF,Ou.j (.mp 0),EA⟩
theorem aio:zK PN 80 PL PI 81 (.mp 0) [4]:=by show _=_;kernel_rfl
theorem afX:PP.Ok PG 80:=aV (ae ak8 (ae Ud (ae Dp (ae KR (ae Jt (ae KX (ax PG))))))) aio (by kernel_rfl)
theorem aip (n) (a0) (a1):Ez n (a0,a1) = (KW a1).bind fun r0=> (bif decide (a1.2.1=2) then some (2:Int) else some (1:Int)).bind fun x1=> bnd a0.2.1.length r0.1.1 fun n2=> a0.2.1[n2]?.bind fun y3=> bnd a0.2.1.length r0.1.2 fun n4=> a0.2.1[n4]?.bind fun y5=> bif decide (y3=y5) then bnd a0.2.1.length r0.1.1 fun n6=> a0.2.1[n6]?.bind fun y7=> (Dm (a0,a1,y7,((0:Int),x1,[r0.1],(0:Int)))).bind fun r8=> some (r8.1,r8.2) else (wI (a0.2.2.1,r0.1)).bind fun r9=> bif (r9.1 == (decide (a1.2.1=1))) then (pF (a0,a1,(2:Int))).bind fun r10=> some ((1:Int),r10.2) else (bif r9.1 then (vk (a0.2.2.1,r0.1)).bind fun r11=> some (a0.1,a0.2.1,r11.1,a0.2.2.2) else (BC (a0.2.2.1,r0.1)).bind fun r12=> some (a0.1,a0.2.1,r12.1,a0.2.2.2)).bind fun x13=> (pF (x13,a1,(1:Int))).bind fun r14=> some ((1:Int),r14.2):=by kernel_rfl
def ano:TC:=
 (zS [ek 2 0,ek 3 1,XW 4 1000000005,bN 5] (zS [M3 12 2 15 73,XW 6 1000000007,mX 6 13 6 13] (zQ (.seq (.join [⟨39,[.b],false⟩] 1099511611392 none (zR [eF 14 2 15,jH 15 74 14,Cw 16 15,pE 18 3 3 0 3,XX 32 19 100000 20 20 3,oh 21 20 3 17,MV 24 2 15 9,pE 25 9 3 0 9,F7 75 24 26 27 27 9,[o2 28 (.data (.bin .geq) [.t 27,kD 0]) 9 false],Jn 23 28 29,MV 31 2 15 16,Jj 38 31 32 32 16,Jn 30 32 33,qi 35 20 2 14,Ji 37 36 20,[o2 38 (.data (.bin .geq) [.t 37,kD 80]) 20 false],xD 34 38 39])) (zC 39 (zS [Bt 40 6 15 4 4 6,bN 5] .ret) .skip)) (zQ (zS [eF 41 2 15,Jo 42 3 4 76 41,jr 44 43] (zC 44 (zS [eF 45 3 4,zGe 77 6 45 3 46 6 46] (zS [Bt 47 6 15 4 4 6,uh 5 1] .ret)) .skip)) (zQ (zS [bV 48 3 1] (.block 0 (zS [TD 51 49 3] (zC 50 (zS [Bu 53 2 0 2 3,bV 57 2 2,zGg 59 78 54 56 58,dh 59 52 59,zKn 52 60 52 1 7,ai 8 61] (zS [uh 9 2] (zQ (.join [⟨9,[.i .i64],false⟩] 9440121279720863040000 none (zS [ku 62 7,ku 67 7,bV 63 3 2,wD 65 62 64,Em 66 7 1 65,bV 68 3 3,wD 70 67 69,Em 71 7 1 70,Bp 72 66 71] (zC 72 (zR [uh 9 1]) .skip))) (zS [eF 73 3 4,ai 74 9,zGi 6 73 74 75 6 75] (zS [Bt 76 6 15 4 4 6,uh 5 1] .ret))))) (zS [xI 78 49 4 77] (zC 77 (zQ (zS [Bu 79 2 1 3 2,ui 83 80 82 1,bV 85 3 3,Bp 87 84 86] (zC 87 (zS [eF 88 3 4,zGe 77 6 88 2 89 6 89] (zS [Bt 90 6 15 4 4 6,uh 5 1] .ret)) .skip)) (zS [zGj 1000000002 3 4 91 91,zGk 1000000002 92 92,[⟨false,[],[1000000002],.det 1 (.load 2 [] 1 (.t 92) 1 false),[93],(some 93),none⟩],zKj 1000000002 94 94 2,zGn 1000000002 93 95 96 96,zGo 1000000002 93 1 96 1 97 97,bV 98 3 2,[o5 (.build jf [(1,kO 3),(3,.t 99)]) 100 1000000002],zGp 6 91 97 100 101 6 100 101,ai 10 101] (zS [lS 102 6 15,ai 103 10,zBz 102 4 102 4 102 102 6,ai 5 103] .ret))) .skip)))))) (zS [eF 104 3 4,[⟨false,[],[],.call 2 80 [.t 6,.t 104] (.mp 0),[105,6],(some 105),none⟩],ai 11 105] (zS [lS 106 6 15,ai 107 11,zBz 106 4 106 4 106 106 6,ai 5 107] .ret)))))))
def anp:aO:=⟨[.rd true MR,.rd true [.d,.d,.d,.d]],(.tup [(true,15),(false,1)] Ct0)⟩
def anq:aN:=aG [(73,KM),(74,Pz),(32,d9),(75,Dk),(38,SG),(76,Ie),(77,Gx),(78,Js),(79,KU),(80,PP)]
def acv (n:Nat):rf × BZ->Option (Zt1 × Unit):=aI n anq ano [gF,jq] Ty0 [] [4,5] .no
def SH:=acv BIG
def anr:TSp:=⟨anp,[gF,jq],Ty0,[],Ou.j .no,SH⟩
theorem aAf:zK anq 40 anp ano 108 .no [4,5]:=by show _=_;kernel_rfl
theorem aww:anr.Ok PG 40:=aV (ae TV (ae YI (ae dQ (ae Ia (ae VY (ae Pq (ae KR (ae YJ (ae Ud (ae afX (ax PG))))))))))) aAf (by kernel_rfl)
theorem aAg (n) (a0) (a1):acv n (a0,a1) = (xO a0).bind fun r0=> ((Gw a0).bind fun r1=> bif !r1.1 then some true else (bD (a1.1,(1:Int),(100000:Int))).bind fun r2=> bif !r2.1 then some true else (xS (a0,a1.1)).bind fun r3=> bif decide (0<=r3.1) then some true else (DT a0).bind fun r4=> bif r4.1 then some true else some (decide (80<=(a0.2.2.2.2.2.2.2.2.2.2.2.2.2.2.length:Int)))).bind fun x5=> bif x5 then some ((r0.1.1,r0.1.2.1,r0.1.2.2.1,r0.1.2.2.2.1,r0.1.2.2.2.2.1,r0.1.2.2.2.2.2.1,r0.1.2.2.2.2.2.2.1,r0.1.2.2.2.2.2.2.2.1,r0.1.2.2.2.2.2.2.2.2.1,r0.1.2.2.2.2.2.2.2.2.2.1,r0.1.2.2.2.2.2.2.2.2.2.2.1,r0.1.2.2.2.2.2.2.2.2.2.2.2.1,r0.1.2.2.2.2.2.2.2.2.2.2.2.2.1,r0.1.2.2.2.2.2.2.2.2.2.2.2.2.2.1,r0.1.2.2.2.2.2.2.2.2.2.2.2.2.2.2,(0:Int)),()) else (Ay (a0,a1)).bind fun r6=> bif !r6.1 then (pF (r0.1,a1,(3:Int))).bind fun r7=> some ((r7.2.1,r7.2.2.1,r7.2.2.2.1,r7.2.2.2.2.1,r7.2.2.2.2.2.1,r7.2.2.2.2.2.2.1,r7.2.2.2.2.2.2.2.1,r7.2.2.2.2.2.2.2.2.1,r7.2.2.2.2.2.2.2.2.2.1,r7.2.2.2.2.2.2.2.2.2.2.1,r7.2.2.2.2.2.2.2.2.2.2.2.1,r7.2.2.2.2.2.2.2.2.2.2.2.2.1,r7.2.2.2.2.2.2.2.2.2.2.2.2.2.1,r7.2.2.2.2.2.2.2.2.2.2.2.2.2.2.1,r7.2.2.2.2.2.2.2.2.2.2.2.2.2.2.2,(1:Int)),()) else bif decide (a1.2.1=3) then (zU (a0.1,a0.2.2.2.1,a0.2.2.1)).bind fun r8=> (bnd r8.1.1.length a1.2.2.1 fun n9=> r8.1.1[n9]?.bind fun y10=> bnd r8.1.1.length a1.2.2.2 fun n11=> r8.1.1[n11]?.bind fun y12=> bif decide (y10=y12) then some (1:Int) else some (2:Int)).bind fun x13=> (pF (r0.1,a1,x13)).bind fun r14=> some ((r14.2.1,r14.2.2.1,r14.2.2.2.1,r14.2.2.2.2.1,r14.2.2.2.2.2.1,r14.2.2.2.2.2.2.1,r14.2.2.2.2.2.2.2.1,r14.2.2.2.2.2.2.2.2.1,r14.2.2.2.2.2.2.2.2.2.1,r14.2.2.2.2.2.2.2.2.2.2.1,r14.2.2.2.2.2.2.2.2.2.2.2.1,r14.2.2.2.2.2.2.2.2.2.2.2.2.1,r14.2.2.2.2.2.2.2.2.2.2.2.2.2.1,r14.2.2.2.2.2.2.2.2.2.2.2.2.2.2.1,r14.2.2.2.2.2.2.2.2.2.2.2.2.2.2.2,(1:Int)),()) else bif decide (a1.2.1=4) then bnd a0.2.1.length a1.2.2.1 fun n15=> a0.2.1[n15]?.bind fun y16=> bif decide (y16=a1.2.2.2) then (pF (r0.1,a1,(2:Int))).bind fun r17=> some ((r17.2.1,r17.2.2.1,r17.2.2.2.1,r17.2.2.2.2.1,r17.2.2.2.2.2.1,r17.2.2.2.2.2.2.1,r17.2.2.2.2.2.2.2.1,r17.2.2.2.2.2.2.2.2.1,r17.2.2.2.2.2.2.2.2.2.1,r17.2.2.2.2.2.2.2.2.2.2.1,r17.2.2.2.2.2.2.2.2.2.2.2.1,r17.2.2.2.2.2.2.2.2.2.2.2.2.1,r17.2.2.2.2.2.2.2.2.2.2.2.2.2.1,r17.2.2.2.2.2.2.2.2.2.2.2.2.2.2.1,r17.2.2.2.2.2.2.2.2.2.2.2.2.2.2.2,(1:Int)),()) else bnd a0.2.1.length a1.2.2.1 fun n18=> a0.2.1[n18]?.bind fun y19=> (Dm (r0.1,a1,y19,((0:Int),(3:Int),[],a1.2.2.1))).bind fun r20=> some ((r20.2.1,r20.2.2.1,r20.2.2.2.1,r20.2.2.2.2.1,r20.2.2.2.2.2.1,r20.2.2.2.2.2.2.1,r20.2.2.2.2.2.2.2.1,r20.2.2.2.2.2.2.2.2.1,r20.2.2.2.2.2.2.2.2.2.1,r20.2.2.2.2.2.2.2.2.2.2.1,r20.2.2.2.2.2.2.2.2.2.2.2.1,r20.2.2.2.2.2.2.2.2.2.2.2.2.1,r20.2.2.2.2.2.2.2.2.2.2.2.2.2.1,r20.2.2.2.2.2.2.2.2.2.2.2.2.2.2.1,r20.2.2.2.2.2.2.2.2.2.2.2.2.2.2.2,r20.1),()) else (EA (r0.1,a1)).bind fun r21=> some ((r21.2.1,r21.2.2.1,r21.2.2.2.1,r21.2.2.2.2.1,r21.2.2.2.2.2.1,r21.2.2.2.2.2.2.1,r21.2.2.2.2.2.2.2.1,r21.2.2.2.2.2.2.2.2.1,r21.2.2.2.2.2.2.2.2.2.1,r21.2.2.2.2.2.2.2.2.2.2.1,r21.2.2.2.2.2.2.2.2.2.2.2.1,r21.2.2.2.2.2.2.2.2.2.2.2.2.1,r21.2.2.2.2.2.2.2.2.2.2.2.2.2.1,r21.2.2.2.2.2.2.2.2.2.2.2.2.2.2.1,r21.2.2.2.2.2.2.2.2.2.2.2.2.2.2.2,r21.1),()):=by kernel_rfl
def YR:TC:=
 (zS [ek 1 0,zGq 2 1000000003] (zS [lm 5 1 0 5,[o1 7 (.build xB [(0,.t 6)])],zGq 3 1000000004,mX 3 7 3 7] (zQ (.join [⟨3,xB,false⟩] 8589934360 none (zS [bN 4] (.block 0 (.loop [⟨3,xB,false⟩,⟨4,[.i .i64],false⟩] 8589934360 (zQ (zS [ai 8 4,lm 9 1 1 9,qZ 11 10 8] (zC 12 .skip (.exit 0))) (zQ (.block 1 (zR [ai 19 4,ai 25 4,xG 15 3 1,bV 17 1 1,Jk 20 18 19 4,bV 23 1 1,O5 26 24 25 4 1,zEB 29 22 28,zEC 30 29,O_ 16 16 30 31 16 16 3 31 3 3 1])) (zR [gJ 13 4 4]))))))) (zS [Bt 33 3 2 2 2 3] .ret))))
def YS:aO:=⟨[.rd true Ct6],(.one true apo)⟩
def YT:aN:=aG []
def KY (n:Nat):mK->Option (aco × Unit):=aI n YT YR [iG] xB [] [2] .no
def l6:=KY BIG
def x_:TSp:=⟨YS,[iG],xB,[],Ou.j .no,l6⟩
theorem apL:zK YT 87 YS YR 34 .no [2]:=by show _=_;kernel_rfl
theorem Az:x_.Ok PG 87:=aV (ax PG) apL (by kernel_rfl)
theorem apM (n) (a0):KY n a0 = (aU n (X:=aco × Int) (B:=aco) (fun self1 x0=> bif decide (x0.2<(a0.2.length:Int)) then bnd a0.2.length x0.2 fun n2=> a0.2[n2]?.bind fun y3=> bnd a0.2.length x0.2 fun n4=> a0.2[n4]?.bind fun y5=> bif decide (x0.1.2.length+([(y3.1,y5.2.1)]).length<=4294967296) then self1 ((x0.1.1,x0.1.2++([(y3.1,y5.2.1)])),IntKind.wrap .i64 (x0.2+1)) else none else some x0.1) ((a0.1,[]),(0:Int))).bind fun x6=> some (x6,()):=by kernel_rfl
def YU:TC:=
 (zS [nO 1 0] (zQ (.join [⟨2,[.b],false⟩] 8188 none (zR [lm 3 1 0 3,ug 5 32 4 12,ai 6 5,mZ 7 3,rZ 8 1 0 7 3,mZ 9 3,rZ 10 1 1 9 3,xE 104 8 10 11 11 3,ql 6 11 12 2])) .ret))
def YV:aO:=⟨[.rd true apo],(.one false [.d])⟩
def YW:aN:=aG [(32,d9),(104,uK)]
def KZ (n:Nat):aco->Option ((Bool) × Unit):=aI n YW YU [xB] [.b] [] [2] .no
def Dq:=KZ BIG
def K3:TSp:=⟨YV,[xB],[.b],[],Ou.j .no,Dq⟩
theorem apN:zK YW 127 YV YU 13 .no [2]:=by show _=_;kernel_rfl
theorem Ue:K3.Ok PG 127:=aV (ae dQ (ae xQ (ax PG))) apN (by kernel_rfl)
theorem apO (n) (a0):KZ n a0 = ((bD (a0.1,(1:Int),(12:Int))).bind fun r0=> bif r0.1 then (qG (a0.1,a0.2)).bind fun r1=> some r1.1 else some false).bind fun x2=> some (x2,()):=by kernel_rfl
def YX:TC:=
 (zS [ek 2 0,zGc 4] (zS [XY 8,dh 8 5 8] (zQ (.join [⟨5,[.sl [.i .i64,.i .i64]],false⟩] 137438953184 none (zS [bN 6] (.block 0 (.loop [⟨5,[.sl [.i .i64,.i .i64]],false⟩,⟨6,[.i .i64],false⟩] 137438953184 (zQ (zS [Ga 9 6 2 1,qZ 12 11 9] (zC 13 .skip (.exit 0))) (zQ (.join [⟨5,[.sl [.i .i64,.i .i64]],false⟩] 137438888096 none (.block 1 (zS [xK 16 2 1 6,uJ 19 17 18 4 4,zGr 7 1000000008,jW 7 7 20] (zQ (.join [⟨28,[.b],false⟩] 534773760 none (zR [bV 21 7 3,Gc 23 22 2 7 2 2,ik 26 1 2,zGs 27 25 26 2,Bl 23 27 28])) (zC 28 (zR [dh 5 29 5,Bu 30 7 0 7 1,zEB 34 31 33,X_ 35 34 29 29 5]) .skip))))) (zR [gJ 14 6 6]))))))) (zS [Cx 5 37 5 4] .ret))))
def YY:aO:=⟨[.rd true Ct6,.rd false [.d]],(.one false oV)⟩
def YZ:aN:=aG []
def K4 (n:Nat):mK × Int->Option ((List bG) × Unit):=aI n YZ YX [iG,[.i .i64]] [.sl [.i .i64,.i .i64]] [] [4] .no
def K5:=K4 BIG
def Y0:TSp:=⟨YY,[iG,[.i .i64]],[.sl [.i .i64,.i .i64]],[],Ou.j .no,K5⟩
theorem apP:zK YZ 128 YY YX 38 .no [4]:=by show _=_;kernel_rfl
theorem ak9:Y0.Ok PG 128:=aV (ax PG) apP (by kernel_rfl)
theorem apQ (n) (a0) (a1):K4 n (a0,a1) = (aU n (X:=(List bG) × Int) (B:=(List bG)) (fun self1 x0=> bif decide (x0.2<(a0.2.length:Int)) then (bnd a0.2.length x0.2 fun n2=> a0.2[n2]?.bind fun y3=> (bif y3.2.2.2 then some (decide (a1<=y3.2.2.1)) else some false).bind fun x4=> bif x4 then bif decide (x0.1.length+([(y3.1,y3.2.1)]).length<=4294967296) then some (x0.1++([(y3.1,y3.2.1)])) else none else some x0.1:Option ((List bG))).bind fun x5=> self1 (x5,IntKind.wrap .i64 (x0.2+1)) else some x0.1) ([],(0:Int))).bind fun x6=> some (x6,()):=by kernel_rfl
def aiq:TC:=
 (zS [bH 4] (zQ (.join [] 262128 (some [⟨4,[.b],false⟩]) (zS [bN 5] (.block 0 (.loop [⟨5,[.i .i64],false⟩] 262128 (zQ (zS [dC 6 5 0,mJ 8 7,mf 9 6 8] (zC 9 .skip (.exit 0))) (zQ (.block 1 (zS [O6 12 0 5 1,ai 16 1,Bp 17 15 16] (zC 17 (zS [ic 4] .ret) .skip))) (zR [gJ 10 5 5]))))))) (zS [bH 4] .ret)))
def air:aO:=⟨[.rd false jP,.rd false [.d]],(.one false [.d])⟩
def ais:aN:=aG []
def V4 (n:Nat):List Int × Int->Option ((Bool) × Unit):=aI n ais aiq [[.sl [.i .i64]],[.i .i64]] [.b] [] [4] .no
def jX:=V4 BIG
def vQ:TSp:=⟨air,[[.sl [.i .i64]],[.i .i64]],[.b],[],Ou.j .no,jX⟩
theorem awx:zK ais 129 air aiq 18 .no [4]:=by show _=_;kernel_rfl
theorem wJ:vQ.Ok PG 129:=aV (ax PG) awx (by kernel_rfl)
theorem awy (n) (a0) (a1):V4 n (a0,a1) = (aU n (X:=Int) (B:=(Unit) ⊕ (Bool)) (fun self1 x0=> bif decide (x0<(a0.length:Int)) then bnd a0.length x0 fun n2=> a0[n2]?.bind fun y3=> bif decide (y3=a1) then some (Sum.inr true) else self1 (IntKind.wrap .i64 (x0+1)) else some (Sum.inl ())) (0:Int)).bind fun y=>match y with | .inl x4=> some (false,()) | .inr x4=> some (x4,()):=by kernel_rfl
def K6:TC:=
 (zS [zBb 10,bH 11] (zS [ai 17 2,MS 18 17,dh 18 12 18] (zS [M5 19 4 2,wD 21 19 20,[o4 1 [4,19] (.store 4 [(0,1)] 0 (.t 21) (.c [.b] [.bool true]))]] (zQ (.join [⟨12,[.sl [.i .i64]],false⟩,⟨4,[.sl [.b]],false⟩] 147573952589672348688 (some [⟨10,[.sl [.i .i64]],false⟩,⟨11,[.b],false⟩,⟨4,[.sl [.b]],false⟩]) (zS [bN 13] (.block 0 (.loop [⟨12,[.sl [.i .i64]],false⟩,⟨4,[.sl [.b]],false⟩,⟨13,[.i .i64],false⟩] 147573952589674445840 (zQ (zS [MZ 22 13 0] (zC 24 .skip (.exit 0))) (zQ (.join [⟨12,[.sl [.i .i64]],false⟩,⟨4,[.sl [.b]],false⟩] 147573952589542317072 (some [⟨10,[.sl [.i .i64]],false⟩,⟨11,[.b],false⟩,⟨4,[.sl [.b]],false⟩]) (.block 1 (zS [dC 27 13 2,zEB 29 27 28,zGb 14 1000000015,jW 14 14 29] (zQ (.join [⟨14,[.i .i64,.i .i64],false⟩] 67645751296 none (zS [MZ 30 2 13] (zC 32 (zR [dC 33 2 13,zEB 35 33 34,jW 14 14 35]) .skip))) (zQ (.seq (.join [⟨44,[.b],false⟩] 35115652612096 none (zR [dC 36 13 3,Bp 38 36 37,ai 39 38,iL 40 1 3,MV 41 14 2 3,F7 109 40 41 42 42 3,uH 43 42 3 39])) (zC 44 (.exit 1) .skip)) (zQ (zS [M5 45 4 13,wD 47 45 46,Em 48 4 1 47] (zC 48 (zS [Cx 12 49 12 10,ic 11] .ret) .skip)) (zS [dC 51 0 1,dC 53 13 2,ku 55 4,[⟨false,[],[],.call 2 134 [.t 51,.t 52,.t 53,.t 54,.t 55] (.mt 4 [] 0 55 4),[56,4,45,47,55],(some 56),none⟩],dh 56 50 56,TA 50 57 50 1 15] (zQ (zS [ai 59 16] (zC 59 (zS [Cx 12 60 12 10,ic 11] .ret) .skip)) (zR [dh 12 61 12,dh 15 62 15,yU 61 62 63 61,ai 64 2,MS 65 64,F_ 63 65 66 63 12]))))))))) (zR [O9 25 13]))))))) (zS [Cx 12 67 12 10,bH 11] .ret)))))
def K7:aO:=⟨[.rd false [.d],.rd false oV,.rd false [.d],.rd false [.d],.mt false jP],(.tup [(false,1),(false,1)] awr)⟩
def K8 (q:Int × (List bG) × Int × Int × List (Bool)->Option ((List Int × Bool) × List (Bool))):aN:=aG [(109,BB),(134,⟨K7,[[.i .i64],[.sl [.i .i64,.i .i64]],[.i .i64],[.i .i64],[.sl [.b]]],[.sl [.i .i64],.b],[.sl [.b]],Ou.j (.mt 4 4 0),q⟩)]
def K9 (q:Int × (List bG) × Int × Int × List (Bool)->Option ((List Int × Bool) × List (Bool))) (n:Nat):Int × (List bG) × Int × Int × List (Bool)->Option ((List Int × Bool) × List (Bool)):=aI n (K8 q) K6 [[.i .i64],[.sl [.i .i64,.i .i64]],[.i .i64],[.i .i64],[.sl [.b]]] [.sl [.i .i64],.b] [.sl [.b]] [10,11] (.mt 4 4 0)
def yc:Nat->Int × (List bG) × Int × Int × List (Bool)->Option ((List Int × Bool) × List (Bool))
 | 0=>fun _=>none
 | d+1=>K9 (yc d) BIG
def Y1 (d:Nat):TSp:=⟨K7,[[.i .i64],[.sl [.i .i64,.i .i64]],[.i .i64],[.i .i64],[.sl [.b]]],[.sl [.i .i64],.b],[.sl [.b]],Ou.j (.mt 4 4 0),(yc d)⟩
theorem apR (q:Int × (List bG) × Int × Int × List (Bool)->Option ((List Int × Bool) × List (Bool))):apk PG (K8 q) 134 K7 (K6.ht 68) (.mt 4 4 0)=some (K6.wc (K8 q),[10,11]):=by kernel_rfl
theorem Uf:∀d:Nat,(Y1 d).Ok PG 134
 | 0=>fun _ _ _ h=>by cases h
 | d+1=>aV (ae Dp (ae (Uf d) (ax PG))) (apR _) (by kernel_rfl)
theorem apS (q:Int × (List bG) × Int × Int × List (Bool)->Option ((List Int × Bool) × List (Bool))) (n) (a0) (a1) (a2) (a3) (a4):K9 q n (a0,a1,a2,a3,a4) =
 bnd a4.length a2 fun n0=>
 a4[n0]?.bind fun y1=>
 (aU n (X:=(List Int) × (List (Bool)) × Int) (B:=((List Int) × (List (Bool))) ⊕ ((List Int) × Bool × (List (Bool)))) (fun self3 x2=>
  bif decide (x2.2.2<a0) then
   ((bif decide (a2<x2.2.2) then
     some (a2,x2.2.2)
    else some (x2.2.2,a2)).bind fun x4=>
    (bif decide (x2.2.2=a3) then
     some true
     else (wI (a1,x4)).bind fun r5=>
     some !r5.1).bind fun x6=>
    bif x6 then
     some (Sum.inl (x2.1,x2.2.1))
    else bnd x2.2.1.length x2.2.2 fun n7=>
    x2.2.1[n7]?.bind fun y8=>
    bif y8 then
     some (Sum.inr (x2.1,true,x2.2.1))
    else (q (a0,a1,x2.2.2,a2,x2.2.1)).bind fun r9=>
    bif r9.1.2 then
     some (Sum.inr (x2.1,true,r9.2))
    else bif decide (x2.1.length+r9.1.1.length<=4294967296) then
     bif decide ((x2.1++r9.1.1).length+[a2].length<=4294967296) then
      some (Sum.inl ((x2.1++r9.1.1)++[a2],r9.2))
     else none
    else none:Option (((List Int) × (List (Bool))) ⊕ ((List Int) × Bool × (List (Bool))))).bind fun y=>match y with
   | .inl x10=>
    self3 (x10.1,x10.2,IntKind.wrap .i64 (x2.2.2+1))
   | .inr x10=>
    some (Sum.inr (x10.1,x10.2.1,x10.2.2))
  else some (Sum.inl (x2.1,x2.2.1))) ([a2],a4.set n0 true,(0:Int))).bind fun y=>match y with
 | .inl x11=>
  some ((x11.1,false),x11.2)
 | .inr x11=>
  some ((x11.1,x11.2.1),x11.2.2):=by kernel_rfl
def aee:TC:=
 (zS [zBb 6,bH 7] (zQ (.seq (.join [⟨20,[.b],false⟩] 2095104 none (zR [ai 11 0,ug 12 32 11 12,Gb 13 12 2 3,iL 16 0 3,zEm 17 16 3,zEn 32 15 17 18 18 3,uH 19 18 3 14])) (zC 20 (zS [TB 21 6,bH 7] .ret) .skip)) (zQ (.join [] 68715282880 (some [⟨6,[.sl [.i .i64]],false⟩,⟨7,[.b],false⟩]) (zS [bN 8] (.block 0 (.loop [⟨8,[.i .i64],false⟩] 68715282880 (zQ (zS [Jl 22 8 1] (zC 25 .skip (.exit 0))) (zQ (.block 1 (zS [dC 28 0 1,ai 30 8,uJ 31 29 30 2 2,lQ 33 107 28 32,jr 34 33] (zC 34 (zS [TB 35 6,bH 7] .ret) .skip))) (zR [gJ 26 8 8]))))))) (zS [dC 37 0 1,dC 39 2 0,[o1 41 (.make (.t 40) [.b]),⟨false,[],[],.call 2 134 [.t 37,.t 38,.t 39,kO (-1),.t 41] (.mt 41 [] 0 41 4),[42,41],(some 42),none⟩],dh 42 36 42,TA 36 43 36 1 9] (zQ (zS [ai 45 10] (zC 45 (zS [TB 46 6,bH 7] .ret) .skip)) (zS [Cx 9 47 9 6,ic 7] .ret))))))
def aef:aO:=⟨[.rd false [.d],.rd false oV,.rd false [.d]],(.tup [(false,1),(false,1)] awr)⟩
def aeg:aN:=aG [(32,d9),(107,Bz),(134,Y1 64)]
def PQ (n:Nat):Int × (List bG) × Int->Option ((List Int × Bool) × Unit):=aI n aeg aee [[.i .i64],[.sl [.i .i64,.i .i64]],[.i .i64]] [.sl [.i .i64],.b] [] [6,7] .no
def Gz:=PQ BIG
def aeh:TSp:=⟨aef,[[.i .i64],[.sl [.i .i64,.i .i64]],[.i .i64]],[.sl [.i .i64],.b],[],Ou.j .no,Gz⟩
theorem atB:zK aeg 130 aef aee 48 .no [6,7]:=by show _=_;kernel_rfl
theorem apT:aeh.Ok PG 130:=aV (ae dQ (ae Dj (ae (Uf 64) (ax PG)))) atB (by kernel_rfl)
theorem atC (n) (a0) (a1) (a2):PQ n (a0,a1,a2) = ((bD (a0,(1:Int),(12:Int))).bind fun r0=> bif !r0.1 then some true else (bD (a2,(0:Int),IntKind.wrap .i64 (a0-1))).bind fun r1=> some !r1.1).bind fun x2=> bif x2 then some (([],false),()) else (aU n (X:=Int) (B:=(Unit) ⊕ ((List Int) × Bool)) (fun self4 x3=> bif decide (x3<(a1.length:Int)) then bnd a1.length x3 fun n5=> a1[n5]?.bind fun y6=> (wH (a0,y6)).bind fun r7=> bif !r7.1 then some (Sum.inr ([],false)) else self4 (IntKind.wrap .i64 (x3+1)) else some (Sum.inl ())) (0:Int)).bind fun y=>match y with | .inl x8=> bif decide (0<=a0) then bif decide ((Int.toNat a0)<=4294967296) then (yc 64 (a0,a1,a2,(-1:Int),List.replicate (Int.toNat a0) false)).bind fun r9=> bif r9.1.2 then some (([],false),()) else some ((r9.1.1,true),()) else none else none | .inr x8=> some (x8,()):=by kernel_rfl
def Ug:TC:=
 (zS [ek 2 0,zGt 4 1000000005,bH 5] (zS [bV 12 2 0,[o1 14 (.build uw [(0,.t 13)])],zGt 6 1000000007,zGu 14 6 14 6 14 14] (zS [eF 15 2 2,ai 16 1,qj 17 128 15 16 7] (zQ (zS [bV 18 2 0,ug 20 32 19 12,jr 21 20] (zC 21 (zS [[o1 22 (.build uw [])],zGu 22 4 22 4 22 22,bH 5] .ret) .skip)) (zS [TB 23 8] (zQ (.join [⟨4,uw,false⟩,⟨6,uw,false⟩] 9007199237967728 (some [⟨4,uw,false⟩,⟨5,[.b],false⟩]) (zS [bN 9] (.block 0 (.loop [⟨4,uw,false⟩,⟨6,uw,false⟩,⟨8,[.sl [.i .i64]],false⟩,⟨9,[.i .i64],false⟩] 9007199237967728 (zQ (zS [Ga 24 9 2 0,mf 27 24 26] (zC 27 .skip (.exit 0))) (zQ (.join [⟨4,uw,false⟩,⟨6,uw,false⟩,⟨8,[.sl [.i .i64]],false⟩] 9007198181002608 (some [⟨4,uw,false⟩,⟨5,[.b],false⟩]) (.block 1 (zQ (zS [M5 30 8 9,lQ 32 129 30 31] (zC 32 (.exit 1) .skip)) (zS [bV 34 2 0,M5 36 7 9,zGg 38 130 35 36 37,dh 38 33 38,TA 33 39 33 1 10] (zQ (zS [ai 41 11,jr 42 41] (zC 42 (zS [[o1 43 (.build uw [])],zGu 43 4 43 4 43 43,bH 5] .ret) .skip)) (zS [xG 44 6 1,zGv 10 10 46 10 46,[o1 47 (.sli [.sl [.i .i64]] [.t 46])],O_ 45 45 47 48 45 45 6 48 6 6 1] (zR [X3 8 50 8 30 50,ai 51 10,yU 50 51 52 50,X3 52 8 52 30 8]))))))) (zR [gJ 28 9 9]))))))) (zS [Bt 53 6 2 4 4 6,ic 5] .ret)))))))
def Uh:aO:=⟨[.rd true Ct6,.rd false [.d]],(.tup [(true,2),(false,1)] [.d,.sl (.own none) [.sl (.ro []) [.d]],.d])⟩
def Ui:aN:=aG [(128,Y0),(32,d9),(129,vQ),(130,aeh)]
def Ig (n:Nat):mK × Int->Option ((Int × List (List Int) × Bool) × Unit):=aI n Ui Ug [iG,[.i .i64]] [.i .i64,.sl [.sl [.i .i64]],.b] [] [4,5] .no
def qH:=Ig BIG
def uL:TSp:=⟨Uh,[iG,[.i .i64]],[.i .i64,.sl [.sl [.i .i64]],.b],[],Ou.j .no,qH⟩
theorem ak_:zK Ui 115 Uh Ug 54 .no [4,5]:=by show _=_;kernel_rfl
theorem yf:uL.Ok PG 115:=aV (ae ak9 (ae dQ (ae wJ (ae apT (ax PG))))) ak_ (by kernel_rfl)
theorem ala (n) (a0) (a1):Ig n (a0,a1) =
 (K5 (a0,a1)).bind fun r0=>
 (bD (a0.1,(1:Int),(12:Int))).bind fun r1=>
 bif !r1.1 then
  some (((0:Int),[],false),())
 else (aU n (X:=H6 × H6 × (List Int) × Int) (B:=(H6 × H6) ⊕ (H6 × Bool)) (fun self3 x2=>
  bif decide (x2.2.2.2<a0.1) then
   ((jX (x2.2.2.1,x2.2.2.2)).bind fun r4=>
    bif r4.1 then
     some (Sum.inl (x2.1,x2.2.1,x2.2.2.1))
    else (Gz (a0.1,r0.1,x2.2.2.2)).bind fun r5=>
    bif !r5.1.2 then
     some (Sum.inr (((0:Int),[]),false))
    else bif decide (x2.2.1.2.length+[r5.1.1].length<=4294967296) then
     bif decide (x2.2.2.1.length+r5.1.1.length<=4294967296) then
      some (Sum.inl (x2.1,(x2.2.1.1,x2.2.1.2++[r5.1.1]),x2.2.2.1++r5.1.1))
     else none
    else none:Option ((H6 × H6 × (List Int)) ⊕ (H6 × Bool))).bind fun y=>match y with
   | .inl x6=>
    self3 (x6.1,x6.2.1,x6.2.2,IntKind.wrap .i64 (x2.2.2.2+1))
   | .inr x6=>
    some (Sum.inr (x6.1,x6.2))
  else some (Sum.inl (x2.1,x2.2.1))) (((0:Int),[]),(a0.1,[]),[],(0:Int))).bind fun y=>match y with
 | .inl x7=>
  some ((x7.2.1,x7.2.2,true),())
 | .inr x7=>
  some ((x7.1.1,x7.1.2,x7.2),()):=by kernel_rfl
def Y2:TC:=
 (zS [zBb 2] (zS [zBc 5,dh 5 3 5] (zQ (.join [⟨3,[.sl [.i .i64]],false⟩] 131032 none (zS [bN 4] (.block 0 (.loop [⟨3,[.sl [.i .i64]],false⟩,⟨4,[.i .i64],false⟩] 131032 (zQ (zS [ai 6 4,zGx 7 6 12] (zC 7 .skip (.exit 0))) (zQ (.join [⟨3,[.sl [.i .i64]],false⟩] 130056 none (.block 1 (zS [dC 10 0 4,lQ 12 129 10 11] (zC 12 (zR [dh 3 13 3,ai 14 4,MS 15 14,F_ 13 15 16 13 3]) .skip)))) (zR [ai 8 4,xC 9 8,ai 4 9]))))))) (zS [Cx 3 17 3 2] .ret))))
def Y3:aO:=⟨[.rd false jP],(.one false jP)⟩
def Y4:aN:=aG [(129,vQ)]
def K_ (n:Nat):List (Int)->Option ((List Int) × Unit):=aI n Y4 Y2 [[.sl [.i .i64]]] [.sl [.i .i64]] [] [2] .no
def kP:=K_ BIG
def yg:TSp:=⟨Y3,[[.sl [.i .i64]]],[.sl [.i .i64]],[],Ou.j .no,kP⟩
theorem apU:zK Y4 120 Y3 Y2 18 .no [2]:=by show _=_;kernel_rfl
theorem AA:yg.Ok PG 120:=aV (ae wJ (ax PG)) apU (by kernel_rfl)
theorem apV (n) (a0):K_ n a0 = (aU n (X:=(List Int) × Int) (B:=(List Int)) (fun self1 x0=> bif decide (x0.2<12) then ((jX (a0,x0.2)).bind fun r2=> bif r2.1 then bif decide (x0.1.length+[x0.2].length<=4294967296) then some (x0.1++[x0.2]) else none else some x0.1:Option ((List Int))).bind fun x3=> self1 (x3,IntKind.wrap .i64 (x0.2+1)) else some x0.1) ([],(0:Int))).bind fun x4=> some (x4,()):=by kernel_rfl
def Y5:TC:=
 (zS [bH 2] (zS [ai 6 0,zGy 7 6,Em 8 6 1 7,MS 9 8,dh 9 3 9] (zS [ai 10 0,zGy 11 10,Em 12 10 1 11,MS 13 12,dh 13 4 13] (zQ (.join [⟨3,[.sl [.i .i64]],false⟩] 2305843009213677628 (some [⟨2,[.b],false⟩]) (zS [uh 5 1] (.block 0 (.loop [⟨3,[.sl [.i .i64]],false⟩,⟨4,[.sl [.i .i64]],false⟩,⟨5,[.i .i64],false⟩] 2305843009213677628 (zQ (zS [Jl 14 5 0] (zC 17 .skip (.exit 0))) (zQ (.join [⟨3,[.sl [.i .i64]],false⟩,⟨4,[.sl [.i .i64]],false⟩] 2305843009212645404 (some [⟨2,[.b],false⟩]) (.block 1 (zQ (.seq (.join [⟨35,[.b],false⟩] 68718428160 none (zR [ku 20 3,mJ 21 20,El 22 21 1,M6 23 22 0 3,ik 25 5 3,Cv 26 24 25 3,O1 27 24 1 26 3,zGz 3 28 28 3,zGz 3 29 29 3,X4 30 29 3,[o2 31 (.data (.bin .sub) [.t 30,kD 2]) 3 true],Cv 32 28 31 3,O1 33 3 1 32 3,zEg 34 27 33 3,Bl 23 34 35])) (zC 35 (zS [ku 36 3,ku 37 3,mJ 38 37,F8 39 38,[⟨true,[36],[],.det 2 (.res 36 none (some (.t 39))),[40,36,36,3,20,37],(some 40),none⟩,⟨false,[],[],.det 2 (.copy 40),[3,40,20,37,36],(some 3),none⟩]] (.exit 1)) .skip)) (zQ (zS [ku 41 4,O6 42 0 5 1,lQ 46 129 41 45] (zC 46 (zS [bH 2] .ret) .skip)) (zS [X3 4 47 4 41 47,O6 48 0 5 1,MS 52 51,yU 47 52 53 47,X3 53 4 53 41 4] (zR [X3 3 54 3 20 54,O6 55 0 5 1,MS 59 58,yU 54 59 60 54,X3 60 3 60 20 3])))))) (zR [gJ 18 5 5]))))))) (zS [dh 3 61 3,mJ 62 61,xI 63 62 1 2] .ret)))))
def Y6:aO:=⟨[.rd false jP],(.one false [.d])⟩
def Y7:aN:=aG [(129,vQ)]
def La (n:Nat):List (Int)->Option ((Bool) × Unit):=aI n Y7 Y5 [[.sl [.i .i64]]] [.b] [] [2] .no
def Lb:=La BIG
def Y8:TSp:=⟨Y6,[[.sl [.i .i64]]],[.b],[],Ou.j .no,Lb⟩
theorem apW:zK Y7 136 Y6 Y5 64 .no [2]:=by show _=_;kernel_rfl
theorem alb:Y8.Ok PG 136:=aV (ae wJ (ax PG)) apW (by kernel_rfl)
theorem apX (n) (a0):La n a0 =
 bnd a0.length (0:Int) fun n0=>
 a0[n0]?.bind fun y1=>
 bnd a0.length (0:Int) fun n2=>
 a0[n2]?.bind fun y3=>
 (aU n (X:=(List Int) × (List Int) × Int) (B:=((List Int)) ⊕ (Bool)) (fun self5 x4=>
  bif decide (x4.2.2<(a0.length:Int)) then
   ((bif decide (1<(x4.1.length:Int)) then
     bnd a0.length x4.2.2 fun n6=>
     a0[n6]?.bind fun y7=>
     bnd x4.1.length (IntKind.wrap .i64 ((x4.1.length:Int)-2)) fun n8=>
     x4.1[n8]?.bind fun y9=>
     some (decide (y7=y9))
    else some false).bind fun x10=>
    bif x10 then
     bif decide (0<=(IntKind.wrap .i64 ((x4.1.length:Int)-1))) then
      bif decide (0<=(Int.toNat (IntKind.wrap .i64 ((x4.1.length:Int)-1)))/\(Int.toNat (IntKind.wrap .i64 ((x4.1.length:Int)-1)))<=x4.1.length) then
       some (Sum.inl (List.take ((Int.toNat (IntKind.wrap .i64 ((x4.1.length:Int)-1)))-0) (List.drop 0 x4.1),x4.2.1))
      else none
     else none
    else bnd a0.length x4.2.2 fun n11=>
    a0[n11]?.bind fun y12=>
    (jX (x4.2.1,y12)).bind fun r13=>
    bif r13.1 then
     some (Sum.inr false)
    else bnd a0.length x4.2.2 fun n14=>
    a0[n14]?.bind fun y15=>
    bif decide (x4.2.1.length+[y15].length<=4294967296) then
     bnd a0.length x4.2.2 fun n16=>
     a0[n16]?.bind fun y17=>
     bif decide (x4.1.length+[y17].length<=4294967296) then
      some (Sum.inl (x4.1++[y17],x4.2.1++[y15]))
     else none
    else none:Option (((List Int) × (List Int)) ⊕ (Bool))).bind fun y=>match y with
   | .inl x18=>
    self5 (x18.1,x18.2,IntKind.wrap .i64 (x4.2.2+1))
   | .inr x18=>
    some (Sum.inr x18)
  else some (Sum.inl x4.1)) ([y1],[y3],(1:Int))).bind fun y=>match y with
 | .inl x19=>
  some (decide ((x19.length:Int)=1),())
 | .inr x19=>
  some (x19,()):=by kernel_rfl
def aei:TC:=
 (zS [bH 2] (zQ (zS [Gd 4 0 4,ug 6 32 5 23,jr 7 6] (zC 7 (zS [bH 2] .ret) .skip)) (zQ (.join [] 1048332 (some [⟨2,[.b],false⟩]) (zS [bN 3] (.block 0 (.loop [⟨3,[.i .i64],false⟩] 1048332 (zQ (zS [dC 8 3 0,qZ 10 9 8] (zC 11 .skip (.exit 0))) (zQ (.block 1 (zS [O6 14 0 3 1,zGB 18 32 17 0 11,jr 19 18] (zC 19 (zS [bH 2] .ret) .skip))) (zR [gJ 12 3 3]))))))) (zS [ai 20 0,jH 21 136 20,ai 2 21] .ret))))
def aej:aO:=⟨[.rd false jP],(.one false [.d])⟩
def aek:aN:=aG [(32,d9),(136,Y8)]
def PR (n:Nat):List (Int)->Option ((Bool) × Unit):=aI n aek aei [[.sl [.i .i64]]] [.b] [] [2] .no
def PS:=PR BIG
def ael:TSp:=⟨aej,[[.sl [.i .i64]]],[.b],[],Ou.j .no,PS⟩
theorem atD:zK aek 135 aej aei 22 .no [2]:=by show _=_;kernel_rfl
theorem apY:ael.Ok PG 135:=aV (ae dQ (ae alb (ax PG))) atD (by kernel_rfl)
theorem atF (n) (a0):PR n a0 = (bD ((a0.length:Int),(1:Int),(23:Int))).bind fun r0=> bif !r0.1 then some (false,()) else (aU n (X:=Int) (B:=(Unit) ⊕ (Bool)) (fun self2 x1=> bif decide (x1<(a0.length:Int)) then bnd a0.length x1 fun n3=> a0[n3]?.bind fun y4=> (bD (y4,(0:Int),(11:Int))).bind fun r5=> bif !r5.1 then some (Sum.inr false) else self2 (IntKind.wrap .i64 (x1+1)) else some (Sum.inl ())) (0:Int)).bind fun y=>match y with | .inl x6=> (Lb a0).bind fun r7=> some (r7.1,()) | .inr x6=> some (x6,()):=by kernel_rfl
end
end Go.Fw
