/- A way of showing what a function computes: the blocks of the heap are owned by the places that hold them; this is a part of it. No conditions. -/
import Derived.Test.YtlolhpdimikcdaaGreatG0
import Derived.Laws.Entries
import Derived.Laws.BitsLemmas
set_option linter.unusedVariables false
set_option linter.unusedSimpArgs false
set_option linter.unusedSectionVars false
namespace Go.Fw
inductive PM where
 | rd (ag:Bool) (cs:List CT)
 | rb (ag:Bool) (cs:List CT)
 | tk (ag:Bool) (cs:List CT)
 | mt (ag:Bool) (cs:List CT)
 | mp (cs:List CT)
inductive RS where
 | u
 | one (ag:Bool) (cs:List CT)
 | tup (ws:List (Bool × Nat)) (cs:List CT)
 | bx (cs:List CT)
structure Sig where
 ps:List PM
 res:RS
def ArgR (κ:Col) (w:World) (i:Nat) (x:Value) (as:List A):PM->Prop
 | .rd ag cs=>∃vs,cellsOf ag x=some vs/\vs.length=cs.length/\RCL κ w (CT.roizes [i] cs) (i,[]) 0 (fun k=>vs.getD k undef) as
 | .rb ag cs=>∃vs,cellsOf ag x=some vs/\vs.length=cs.length/\RCL κ w (CT.roizes [FB] cs) (i,[]) 0 (fun k=>vs.getD k undef) as
 | .tk ag cs=>∃vs,cellsOf ag x=some vs/\vs.length=cs.length/\RCL κ w cs (i,[]) 0 (fun k=>vs.getD k undef) as
 | .mt ag cs=>∃vs,cellsOf ag x=some vs/\vs.length=cs.length/\RCL κ w cs (i,[]) 0 (fun k=>vs.getD k undef) as
 | .mp cs=>∃b,x = .pointer (some ⟨b,0,none⟩)/\b<w.heap.size/\κ b=some (i,[])/\Wrb w b 0 cs.length/\RCL κ w cs (i,[]) 0 (cellD w b) as
def OutR (κ:Col) (w:World) (i:Nat) (x:Value) (as:List A):PM->Prop
 | .mt ag cs=>∃vs,cellsOf ag x=some vs/\vs.length=cs.length/\RCL κ w cs (i,[]) 0 (fun k=>vs.getD k undef) as
 | .mp cs=>∃b,x = .pointer (some ⟨b,0,none⟩)/\b<w.heap.size/\κ b=some (i,[])/\Wrb w b 0 cs.length/\RCL κ w cs (i,[]) 0 (cellD w b) as
 | _=>True
def ResR (κ:Col) (w:World) (n:Nat) (x:Value) (as:List A):RS->Prop
 | .u=>x = .tuple #[]
 | .one ag cs=>∃vs,cellsOf ag x=some vs/\vs.length=cs.length/\RCL κ w cs (n,[]) 0 (fun k=>vs.getD k undef) as
 | .tup ws cs=>∃xs vs,x = .tuple xs/\tupOf ws xs.toList=some vs/\vs.length=cs.length/\RCL κ w cs (n,[]) 0 (fun k=>vs.getD k undef) as
 | .bx cs=>∃b,x = .pointer (some ⟨b,0,none⟩)/\b<w.heap.size/\κ b=some (n,[])/\Wrb w b 0 cs.length/\RCL κ w cs (n,[]) 0 (cellD w b) as
def PM.mut:PM->Bool
 | .rd _ _=>false
 | .rb _ _=>false
 | _=>true
def Mine (sg:Sig) (κ:Col):Prop:=∀b r q,κ b=some (r,q)->r=FB\/∃pm,sg.ps[r]?=some pm/\pm.mut=true
structure Post (sg:Sig) (κ:Col) (w:World) (xs:List Value) (res:List A) (outs:List (List A)) (κ':Col) (w':World) (v:Value):Prop where
 col:∀b,w'.heap.size<=b->κ' b=none
 fr:Fr κ w κ' w'
 fb:∀b q,κ b=some (FB,q)->κ' b=some (FB,q)/\Same w w' b
 mine:∀b r q,κ' b=some (r,q)->(r=FB/\∃q',κ b=some (FB,q'))\/r=sg.ps.length\/∃pm,sg.ps[r]?=some pm/\pm.mut=true
 res:ResR κ' w' sg.ps.length v res sg.res
 outs:∀i pm x as,sg.ps[i]?=some pm->xs[i]?=some x->outs[i]?=some as->OutR κ' w' i x as pm
def Good (P:Program) (K:FuncId) (sg:Sig) (args:List (List A)) (res:List A) (outs:List (List A)):Prop:=
 ∀(κ:Col) (w:World) (xs:List Value),(∀b,w.heap.size<=b->κ b=none)->Mine sg κ->xs.length=sg.ps.length->args.length=sg.ps.length ->
  (∀i pm x as,sg.ps[i]?=some pm->xs[i]?=some x->args[i]?=some as->ArgR κ w i x as pm) ->
  Calls P K xs.toArray w fun e w'=>∃v κ',e = .returned v/\Post sg κ w xs res outs κ' w' v
def inC (κc:Col) (r0:Option Nat) (gG:List Nat->Option Pl) (Sall:List Nat):Col:=fun b=>
 match κc b with
 | none=>none
 | some (r,q)=>if some r=r0 then (match gG q with|some p=>some p|none=>some (FB,[0])) else if r∈Sall/\q≠[] then none else some (FB,[0])
def outC (κc κi κ':Col) (np d sz:Nat) (r0:Option Nat) (gB:List Nat->Option (List Nat)):Col:=fun b=>
 match κ' b with
 | some (r,q)=>if r=np then some (d,q) else if r=FB then (κc b).bind (clrF d) else match r0,gB q with
  | some r',some q'=>some (r',q')
  | _,_=>none
 | none=>if κi b=none/\b<sz then (κc b).bind (clrF d) else none
section
variable {ac:Nat->Nat->Value} {κ0 κ κi κ':Col} {w0 w w':World} {N:Nat} {tg tg':Nat->TT} {sv sv':Nat->AV} {tm tm':Nat->Value}
theorem heap_same {w w':World} {b:Nat} (hs:b<w.heap.size->b<w'.heap.size) (h:w'.heap[b]?=w.heap[b]?):Same w w' b:=by
 refine ⟨hs,fun o x hx => ?_⟩;simp only [World.cell?,World.frozen?,h] at hx ⊢;exact ⟨hx,trivial⟩
theorem R_call (h:R ac κ0 w0 κ w N tg sv tm) {d np:Nat} (hd:d<N) {r0:Option Nat} (hr0:∀r,r0=some r->r<N) {gG:List Nat->Option Pl} {gB:List Nat->Option (List Nat)} {Sall:List Nat}
  (hki:κi=inC κ r0 gG Sall) (hnp:np≠FB) (hcol:∀b,w'.heap.size<=b->κ' b=none) (hfr:Fr κi w κ' w') (hfb:∀b q,κi b=some (FB,q)->κ' b=some (FB,q)/\Same w w' b)
  (hmine:∀b q,κ' b=some (FB,q)->∃q',κi b=some (FB,q'))
  (htg:∀r,r≠d->some r≠r0->tg' r=(tg r).kill (d::r0.toList) r0.toList) (hsv:∀r,r≠d->some r≠r0->sv' r=sv r) (htm:∀r,r≠d->some r≠r0->tm' r=tm r)
  (hTd:TR ac (outC κ κi κ' np d w.heap.size r0 gB) w' tg' sv' tm' d (tg' d)) (hT0:∀r,r0=some r->r≠d->TR ac (outC κ κi κ' np d w.heap.size r0 gB) w' tg' sv' tm' r (tg' r)) :
  R ac κ0 w0 (outC κ κi κ' np d w.heap.size r0 gB) w' N tg' sv' tm':=by
 have hsz:=hfr.size
 -- what is not handed on stays
 have stay:∀b,b<w.heap.size->(∀r q,κ b=some (r,q)->some r≠r0)->outC κ κi κ' np d w.heap.size r0 gB b=(κ b).bind (clrF d)/\Same w w' b:=by
  intro b hb hne;have hi:κi b=none\/κi b=some (FB,[0]):=by
   rw [hki];unfold inC;cases hk:κ b with
   | none=>exact .inl rfl
   | some p=>
    obtain ⟨r,q⟩:=p;simp only;rw [if_neg (hne r q hk)];split
    ·exact .inl rfl
    ·exact .inr rfl
  rcases hi with hi|hi
  ·have:=hfr.kept b hb hi;refine ⟨?_,heap_same (fun _=>Nat.lt_of_lt_of_le hb hsz) this.2⟩;unfold outC;rw [this.1];simp only;rw [if_pos ⟨hi,hb⟩]
  ·have:=hfb b _ hi;refine ⟨?_,this.2⟩;unfold outC;rw [this.1];simp only;rw [if_neg (Ne.symm hnp),if_pos trivial]
 have lt:∀b p,κ b=some p->b<w.heap.size:=fun b p hb=>by
  apply Nat.lt_of_not_le;intro hle;rw [h.col b hle] at hb;cases hb
 refine R_step (mods:=d::r0.toList) (M:=r0.toList) h ?_ (fun S hS b hb => ?_) (fun b r q hr hb => ?_) (fun r hr => ?_) (fun r hr => ?_) (fun r hr => ?_) (fun t ht => ?_) (fun t ht => ?_) (fun b hb => ?_) ?_
 ·have:=h.nle;simp only [List.mem_cons,Option.mem_toList,not_or];refine ⟨by omega,fun hf => ?_⟩;have:=hr0 FB hf;omega
 ·have h1:=stay b hb.1 (fun r q hk he=>hS r (by simp [<-he]) (hb.2 r q hk).1);refine ⟨⟨Nat.lt_of_lt_of_le hb.1 hsz,fun r q hk => ?_⟩,h1.2⟩;rw [h1.1] at hk;cases hκ:κ b with
  | none=>simp [hκ] at hk
  | some p=>
   simp only [hκ,Option.bind_some,clrF] at hk;split at hk
   ·cases hk
   ·cases hk;exact hb.2 r q hκ
 ·simp only [List.mem_cons,Option.mem_toList,not_or] at hr;have h1:=stay b (lt b _ hb) (fun r' q' hk he=>by rw [hb] at hk;cases hk;exact hr.2 he.symm);refine ⟨?_,h1.2⟩;rw [h1.1,hb];simp [clrF,hr.1]
 ·simp only [List.mem_cons,Option.mem_toList,not_or] at hr;exact .inl (htg r hr.1 fun he=>hr.2 he.symm)
 ·simp only [List.mem_cons,Option.mem_toList,not_or] at hr;exact hsv r hr.1 fun he=>hr.2 he.symm
 ·simp only [List.mem_cons,Option.mem_toList,not_or] at hr;exact htm r hr.1 fun he=>hr.2 he.symm
 ·by_cases htd:t=d
  ·subst htd;exact hTd
  ·simp only [List.mem_cons,htd,Option.mem_toList,false_or] at ht;exact hT0 t ht htd
 ·have h1:t≠d:=by omega
  have h2:some t≠r0:=fun he=>by have:=hr0 t he.symm;omega
  rw [htg t h1 h2,h.out t ht];rfl
 ·unfold outC;rw [hcol b hb];simp only;rw [if_neg (by omega)]
 ·refine ⟨Nat.le_trans h.fr.size hsz,fun b hb h0 => ?_,by rw [hfr.os];exact h.fr.os,by rw [hfr.out];exact h.fr.out,by rw [hfr.tape];exact h.fr.tape⟩;have hk:=h.fr.kept b hb h0;have hbw:=Nat.lt_of_lt_of_le hb h.fr.size;have h1:=stay b hbw (fun r q hkb=>by rw [hk.1] at hkb;cases hkb);refine ⟨by rw [h1.1,hk.1];rfl,?_⟩;have hi:κi b=none:=by rw [hki];unfold inC;rw [hk.1]
  rw [(hfr.kept b hbw hi).2];exact hk.2
end
end Go.Fw
namespace Go.Fw
inductive DF where
 | bin (op:BinOp)
 | beq (ne:Bool)
 | not
 | neg
 | conv (k:IntKind)
 | min
 | max
 | sidx
 | slen
 | ssl (lo hi:Bool)
 | pick
 deriving DecidableEq
def strCmp (op:BinOp) (a b:ByteArray):Option Bool:=
 let eq:=a.toList == b.toList
 let lt:=Op.bytesLess a.toList b.toList
 match op with
 | .eql=>some eq
 | .neq=>some !eq
 | .lss=>some lt
 | .leq=>some (lt || eq)
 | .gtr=>some !(lt || eq)
 | .geq=>some !lt
 | _=>none
def intCmp (op:BinOp) (a b:Int):Option Bool:=
 match op with
 | .eql=>some (a == b)
 | .neq=>some (a != b)
 | .lss=>some (decide (a<b))
 | .leq=>some (decide (a<=b))
 | .gtr=>some (decide (a > b))
 | .geq=>some (decide (a ≥ b))
 | _=>none
def intBin (op:BinOp) (k:IntKind) (a b:Int):Option Int:=
 match op with
 | .add=>some (k.wrap (a+b))
 | .sub=>some (k.wrap (a-b))
 | .mul=>some (k.wrap (a*b))
 | .quo=>if b=0 then none else some (k.wrap (a.tdiv b))
 | .rem=>if b=0 then none else some (a.tmod b)
 | .and=>some (bits .and k a b)
 | .or=>some (bits .or k a b)
 | .xor=>some (bits .xor k a b)
 | .andNot=>some (bits .andNot k a b)
 | _=>none
def shBin (op:BinOp) (k:IntKind) (a b:Int):Option Int:=
 if b<0 then none else match op with
  | .shl=>some (k.wrap (a*2 ^ (Nat.min b.toNat k.bits)))
  | .shr=>some (a.fdiv (2 ^ (Nat.min b.toNat k.bits)))
  | _=>none
def dfe:DF->List Value->Option Value
 | .bin op,[.int k a,.int k' b]=>if op = .shl\/op = .shr then (shBin op k a b).map (.int k ·) else if k=k' then match intBin op k a b with
   | some n=>some (.int k n)
   | none=>(intCmp op a b).map .bool
  else none
 | .bin op,[.string a,.string b]=>if op = .add then (if a.size+b.size<=4611686018427387904 then some (.string (a++b)) else none) else (strCmp op a b).map .bool
 | .beq ne,[.bool a,.bool b]=>some (.bool (if ne then !(a == b) else a == b))
 | .not,[.bool a]=>some (.bool !a)
 | .neg,[.int k a]=>some (.int k (k.wrap (0-a)))
 | .conv k,[.int _ a]=>some (.int k (k.wrap a))
 | .min,[.int k a,.int _ b]=>some (.int k (if b<a then b else a))
 | .max,[.int k a,.int _ b]=>some (.int k (if b > a then b else a))
 | .sidx,[.string s,.int _ i]=>if 0<=i then (s[i.toNat]?).map fun b=>.int .u8 b.toNat else none
 | .slen,[.string s]=>some (.int .i64 s.size)
 | .ssl lo hi,.string s::is=>match lo,hi,is with
  | false,false,[]=>some (.string (s.extract 0 s.size))
  | true,false,[.int _ l]=>if 0<=l/\l<=s.size then some (.string (s.extract l.toNat s.size)) else none
  | false,true,[.int _ h]=>if 0<=h/\h<=s.size then some (.string (s.extract 0 h.toNat)) else none
  | true,true,[.int _ l,.int _ h]=>if 0<=l/\l<=h/\h<=s.size then some (.string (s.extract l.toNat h.toNat)) else none
  | _,_,_=>none
 | .pick,[.bool c,a,b]=>some (if c then a else b)
 | _,_=>none
theorem dfe_sc {f:DF} {xs:List Value} {y:Value} (hx:xs.all sc=true) (h:dfe f xs=some y):sc y=true:=by
 unfold dfe at h;split at h
 ·split at h
  ·simp only [Option.map_eq_some_iff] at h;obtain ⟨_,_,rfl⟩:=h;rfl
  ·split at h
   ·split at h
    ·cases h;rfl
    ·simp only [Option.map_eq_some_iff] at h;obtain ⟨_,_,rfl⟩:=h;rfl
   ·cases h
 ·split at h
  ·split at h
   ·cases h;rfl
   ·cases h
  ·simp only [Option.map_eq_some_iff] at h;obtain ⟨_,_,rfl⟩:=h;rfl
 ·cases h;rfl
 ·cases h;rfl
 ·cases h;rfl
 ·cases h;rfl
 ·cases h;rfl
 ·cases h;rfl
 ·split at h
  ·simp only [Option.map_eq_some_iff] at h;obtain ⟨_,_,rfl⟩:=h;rfl
  ·cases h
 ·cases h;rfl
 ·split at h
  ·cases h;rfl
  ·split at h
   ·cases h;rfl
   ·cases h
  ·split at h
   ·cases h;rfl
   ·cases h
  ·split at h
   ·cases h;rfl
   ·cases h
  ·cases h
 ·cases h;simp at hx;split
  ·exact hx.2.1
  ·exact hx.2.2
 ·cases h
theorem run_dataBin {P:Program} {op:BinOp} {t:TypeId} {x y:Operand} {u v r:Value} {w:World} (hu:sc u=true) (hv:sc v=true) (h:dfe (.bin op) [u,v]=some r) :
  ((do eqGuard op t x y u v;binOp op t u v):Sem Value).run P w = .ok r w:=by
 have hg:(eqGuard op t x y u v).run P w = .ok () w:=by
  cases op<;>first
   | rfl
   | (cases u<;>simp [sc] at hu<;>cases v<;>simp [sc] at hv<;>rfl)
 rw [run_ok hg];cases u with
 | int k a=>
  cases v with
  | int k' b=>
   simp only [dfe] at h;split at h
   ·rename_i hsh;simp only [Option.map_eq_some_iff] at h;obtain ⟨n,hn,rfl⟩:=h;have hbin:binOp op t (.int k a) (.int k' b)=Op.shift op k a k' b:=by rcases hsh with rfl|rfl<;>rfl
    rw [hbin];unfold shBin at hn;unfold Op.shift;split at hn
    ·cases hn
    ·rename_i hb;simp only [hb,if_false];rcases hsh with rfl|rfl<;>simp at hn<;>subst hn<;>rfl
   ·rename_i hsh;simp only [not_or] at hsh;split at h
    ·rename_i hk;subst hk;have hbin:binOp op t (.int k a) (.int k b)=(match op with
      | .add | .sub | .mul=>Op.intArith op k a b
      | .quo | .rem=>Op.intDiv op k a b
      | .and | .or | .xor | .andNot=>Op.intBits op k a b
      | _=>Op.intCmp op a b):=by
      unfold binOp;cases op<;>simp at hsh<;>simp
     rw [hbin];cases op<;>simp [intBin,Fw.intCmp] at h hsh<;>first
      | (subst h;rfl)
      | (split at h
         ·rename_i hz
          split at hz<;>simp at hz
          subst hz;cases h
          rename_i hb
          simp [Op.intDiv,hb]
         ·simp at h)
    ·cases h
  | _=>simp [dfe] at h
 | string a=>
  cases v with
  | string b=>
   simp only [dfe] at h;have hbin:binOp op t (.string a) (.string b)=Op.stringOp op a b:=by cases op<;>rfl
   rw [hbin];split at h
   ·rename_i ho;subst ho;split at h
    ·rename_i hs;cases h;have hmax:¬(((a.size+b.size:Nat):Int) > IntKind.i64.max):=by
      have:IntKind.i64.max=9223372036854775807:=by decide
      rw [this];omega
     simp only [Op.stringOp,hmax,if_false];rfl
    ·cases h
   ·simp only [Option.map_eq_some_iff] at h;obtain ⟨c,hc,rfl⟩:=h;cases op<;>first
     | (cases hc;rfl)
     | (simp [strCmp] at hc)
  | _=>simp [dfe] at h
 | bool a=>simp [dfe] at h
 | _=>simp [sc] at hu
end Go.Fw
namespace Go.Fw
def gt (G:List TT) (t:Nat):TT:=G.getD t .dead
def gm (a:Act) (t:Nat):Value:=a.tmps.getD t undef
def Le (D:Nat->TT) (s:Nat->AV) (tg:Nat->TT) (sv:Nat->AV):Prop:=∀t,D t = .dead\/(D t=tg t/\s t=sv t)
theorem Le.at {D:Nat->TT} {s:Nat->AV} {tg:Nat->TT} {sv:Nat->AV} (h:Le D s tg sv) {t:Nat} {T:TT} (ht:D t=T) (hT:T≠.dead):tg t=T/\sv t=s t:=by
 rcases h t with h|h
 ·exact absurd (ht.symm.trans h) hT
 ·exact ⟨by rw [<-h.1,ht],h.2.symm⟩
theorem gm_put {a:Act} {d:Nat} (hd:d<a.tmps.size) (x:Value):gm (a.put (some d) x)=upd (gm a) d x:=by
 funext t;simp only [gm,Act.put,upd,Array.getD_eq_getD_getElem?,Array.getElem?_setIfInBounds];by_cases h:t=d
 ·subst h;simp [hd]
 ·simp [h,Ne.symm h]
inductive DX where
 | t (i:Nat)
 | c (v:Value)
def DX.get (s:Nat->AV):DX->Option Value
 | .t i=>match s i with
  | .v [.v x] _=>some x
  | _=>none
 | .c v=>some v
def dataX (D:Nat->TT):Operand->Option DX
 | .tmp t=>match D t with
  | .val false [.d]=>some (.t t)
  | _=>none
 | .const v=>if sc v then some (.c v) else none
 | _=>none
section
variable {ac:Nat->Nat->Value} {κ0 κ:Col} {w0 w:World} {N:Nat} {tg D:Nat->TT} {sv s:Nat->AV} {a:Act}
theorem dataX_ok (h:R ac κ0 w0 κ w N tg sv (gm a)) (hD:Le D s tg sv) {x:Operand} {X:DX} (hx:dataX D x=some X) {v:Value} (hv:X.get s=some v):a.eval x=v/\sc v=true:=by
 cases x with
 | tmp t=>
  simp only [dataX] at hx;split at hx
  ·rename_i hT;cases hx;simp only [DX.get] at hv;split at hv
   ·rename_i y is hs;cases hv;have h1:=h.tr t;obtain ⟨e1,e2⟩:=hD.at hT (by simp);rw [e1] at h1;simp only [TR] at h1;obtain ⟨as,vs,g1,g2,g3,g4,g5⟩:=h1;rw [e2,hs] at g1;cases g1;have hvs:vs=[gm a t]:=by
     cases hx:gm a t<;>rw [hx] at g2<;>simp [cellsOf] at g2<;>exact g2.symm
    subst hvs;simp only [RCL,RC] at g5;have:=g5.1;simp at this;exact ⟨this.1,this.2⟩
   ·cases hv
  ·cases hx
 | const c=>
  simp only [dataX] at hx;split at hx
  ·cases hx;simp only [DX.get] at hv;cases hv;rename_i hs;exact ⟨rfl,hs⟩
  ·cases hx
 | global g=>simp [dataX] at hx
 | func f=>simp [dataX] at hx
def dataXs (D:Nat->TT):List Operand->Option (List DX)
 | []=>some []
 | x::xs=>match dataX D x,dataXs D xs with
  | some X,some Xs=>some (X::Xs)
  | _,_=>none
def DXs (s:Nat->AV):List DX->Option (List Value)
 | []=>some []
 | X::Xs=>match X.get s,DXs s Xs with
  | some v,some vs=>some (v::vs)
  | _,_=>none
theorem dataXs_ok (h:R ac κ0 w0 κ w N tg sv (gm a)) (hD:Le D s tg sv):∀{xs:List Operand} {Xs:List DX} {vs:List Value},dataXs D xs=some Xs->DXs s Xs=some vs->xs.map a.eval=vs/\vs.all sc=true
 | [],_,_,hx,hv=>by simp only [dataXs,Option.some.injEq] at hx;subst hx;simp only [DXs,Option.some.injEq] at hv;subst hv;simp
 | x::xs,Xs,vs,hx,hv=>by
  simp only [dataXs] at hx;split at hx
  ·rename_i X Xs' h1 h2;cases hx;simp only [DXs] at hv;split at hv
   ·rename_i v vs' h3 h4;cases hv;have e1:=dataX_ok h hD h1 h3;have e2:=dataXs_ok h hD h2 h4;simp [e1.1,e1.2,e2.1,e2.2]
   ·cases hv
  ·cases hx
end
def chkBuiltin (P:Program):Builtin->List Operand->List TypeId->Option (DF × List Operand)
 | .len,[x],[t]=>match P.underlying t with
  | some .string=>some (.slen,[x])
  | _=>none
 | .min,[x,y],_=>some (.min,[x,y])
 | .max,[x,y],_=>some (.max,[x,y])
 | _,_,_=>none
def chkData (P:Program):Op->Option (DF × List Operand)
 | .binOp op t x y _=>match P.underlying t with
  | some .bool=>if op = .eql\/op = .neq then some (.beq (decide (op = .neq)),[x,y]) else none
  | some (.int _)=>some (.bin op,[x,y])
  | some .string=>some (.bin op,[x,y])
  | _=>none
 | .unOp .not _ x=>some (.not,[x])
 | .unOp .neg _ x=>some (.neg,[x])
 | .convert src dst x=>match P.underlying src,P.underlying dst with
  | some (.int _),some (.int k)=>some (.conv k,[x])
  | _,_=>none
 | .pick c x y=>some (.pick,[c,x,y])
 | .index t x i=>match P.underlying t with
  | some .string=>some (.sidx,[x,i])
  | _=>none
 | .slice t x lo hi none=>match P.underlying t with
  | some .string=>some (.ssl lo.isSome hi.isSome,x::(lo.toList++hi.toList))
  | _=>none
 | .call c=>match c.callee with
  | .builtin b=>chkBuiltin P b c.args.toList c.argTypes.toList
  | _=>none
 | _=>none
theorem run_value {P:Program} {e:Sem Value} {v:Value} {w w':World} (h:e.run P w = .ok v w'):((do pure (Next.value (<-e))):Sem Next).run P w = .ok (.value v) w':=by
 rw [run_ok h];rfl
theorem exec_builtin {ρ:Operand->Value} {o:Oper} {b:Builtin} {args:Array Operand} {ats:Array TypeId} (h:o.op = .call { callee:=.builtin b,args,argTypes:=ats }) :
  ∃cs,execOp ρ o=builtin b ats o.type cs (args.map ρ):=by
 refine ⟨args.map fun | .const _=>true|_=>false,?_⟩;unfold execOp;rw [h];rfl
theorem chkData_ok {P:Program} {o:Oper} {ρ:Operand->Value} {f:DF} {xs:List Operand} {y:Value} {w:World} (hc:chkData P o.op=some (f,xs)) (hs:(xs.map ρ).all sc=true) (he:dfe f (xs.map ρ)=some y) :
  (execOp ρ o).run P w = .ok (.value y) w:=by
 unfold execOp;cases hop:o.op with
 | binOp op t x z u=>
  rw [hop] at hc;simp only [chkData] at hc;simp only;refine run_value ?_;split at hc
  ·rename_i hu;split at hc
   ·rename_i hop;cases hc;simp only [List.map_cons,List.map_nil] at hs he;simp at hs;cases hx:ρ x<;>rw [hx] at hs he<;>simp [dfe] at he;cases hz:ρ z<;>rw [hz] at hs he<;>simp [dfe] at he;rename_i p q;have heq:(Op.equal t (.bool p) (.bool q)).run P w = .ok (p == q) w:=by
     unfold Op.equal Op.maxDepth;show (Op.equalIn (9999+1) t (.bool p) (.bool q)).run P w=_;unfold Op.equalIn;rw [run_ok (run_underlying hu w)];rfl
    rcases hop with rfl|rfl
    ·have hg:(eqGuard .eql t x z (.bool p) (.bool q)).run P w = .ok () w:=rfl;rw [run_ok hg];show ((do pure (Value.bool (<-Op.equal t (.bool p) (.bool q)))):Sem Value).run P w=_;rw [run_ok heq];simp at he;subst he;rfl
    ·have hg:(eqGuard .neq t x z (.bool p) (.bool q)).run P w = .ok () w:=rfl;rw [run_ok hg];show ((do pure (Value.bool (!(<-Op.equal t (.bool p) (.bool q))))):Sem Value).run P w=_;rw [run_ok heq];simp at he;subst he;rfl
   ·cases hc
  ·cases hc;simp only [List.map_cons,List.map_nil] at hs he;simp at hs;exact run_dataBin hs.1 hs.2 he
  ·cases hc;simp only [List.map_cons,List.map_nil] at hs he;simp at hs;exact run_dataBin hs.1 hs.2 he
  ·cases hc
 | unOp op t x=>
  rw [hop] at hc;simp only;refine run_value ?_;cases op<;>simp [chkData] at hc
  ·obtain ⟨rfl,rfl⟩:=hc;simp only [List.map_cons,List.map_nil] at hs he;cases hx:ρ x<;>rw [hx] at he<;>simp [dfe] at he;subst he;first
    | rfl
    | simp [Op.unary,Op.intArith,run_pure]
  ·obtain ⟨rfl,rfl⟩:=hc;simp only [List.map_cons,List.map_nil] at hs he;cases hx:ρ x<;>rw [hx] at he<;>simp [dfe] at he;subst he;first
    | rfl
    | simp [Op.unary,Op.intArith,run_pure]
 | convert src dst x=>
  rw [hop] at hc;simp only [chkData] at hc;split at hc
  ·rename_i k0 k h1 h2;cases hc;simp only [List.map_cons,List.map_nil] at hs he;simp only;refine run_value ?_;cases hx:ρ x<;>rw [hx] at he<;>simp [dfe] at he;subst he;unfold convert;rw [run_ok (run_underlying h1 w),run_ok (run_underlying h2 w)];rfl
  ·cases hc
 | pick c x z=>
  rw [hop] at hc;simp only [chkData,Option.some.injEq,Prod.mk.injEq] at hc;obtain ⟨rfl,rfl⟩:=hc;simp only [List.map_cons,List.map_nil] at hs he;cases hx:ρ c<;>rw [hx] at he<;>simp [dfe] at he;subst he;simp only [hx];rfl
 | index t x i=>
  rw [hop] at hc;simp only [chkData] at hc;split at hc
  ·rename_i hu;cases hc;simp only [List.map_cons,List.map_nil] at hs he;simp only;refine run_value ?_;cases hx:ρ x<;>rw [hx] at he<;>simp [dfe] at he;cases hi:ρ i<;>rw [hi] at he<;>simp [dfe] at he;rename_i str k n;obtain ⟨h0,b,hb,rfl⟩:=he;unfold Instr.index;have hs:(asIntOf (.int k n)).run P w = .ok (k,n) w:=rfl;rw [run_ok hs];simp only;rw [run_ok (run_underlying hu w)];simp only [h0,if_true,hb];rfl
  ·cases hc
 | slice t x lo hi mx=>
  rw [hop] at hc;cases mx with
  | some m=>simp [chkData] at hc
  | none=>
   simp only [chkData] at hc;split at hc
   ·rename_i hu;cases hc;simp only;refine run_value ?_;have hb:∀(n y:Nat) (c:BoundsCode) (k:IntKind) (m:Int),0<=m->m<=y->n=m.toNat->(Instr.sliceBound (.int k m) y c).run P w = .ok n w:=by
     intro n y c k m h0 h1 hn;unfold Instr.sliceBound;have hs:(asIntOf (.int k m)).run P w = .ok (k,m) w:=rfl;rw [run_ok hs];simp only [h0,h1,and_self,if_true,hn];rfl
    have key:∀(str:ByteArray) (l h:Nat) (lo' hi':Option Value),(Instr.sliceBounds false str.size str.size lo' hi' none).run P w = .ok (l,h,str.size) w ->
      (Instr.sliceAt t (.string str) lo' hi' none).run P w = .ok (.string (str.extract l h)) w:=by
     intro str l h lo' hi' hbs;unfold Instr.sliceAt;rw [run_ok (run_underlying hu w)];simp only;unfold Instr.slice;rw [run_ok (run_underlying hu w)];simp only [Option.isSome_none,Bool.false_eq_true,if_false];rw [run_ok hbs];rfl
    cases lo with
    | none=>
     cases hi with
     | none=>
      simp only [Option.isSome_none,Option.toList_none,List.append_nil,List.map_cons,List.map_nil] at hs he;show (Instr.sliceAt t (ρ x) none none none).run P w=_;cases hx:ρ x<;>rw [hx] at he<;>simp only [dfe] at he<;>try cases he
      exact key _ _ _ _ _ rfl
     | some hh=>
      simp only [Option.isSome_none,Option.isSome_some,Option.toList_none,Option.toList_some,List.nil_append,List.map_cons,List.map_nil] at hs he;show (Instr.sliceAt t (ρ x) none (some (ρ hh)) none).run P w=_;cases hx:ρ x<;>rw [hx] at he<;>simp only [dfe] at he<;>try cases he
      cases hy:ρ hh<;>rw [hy] at he<;>simp only at he<;>try cases he
      split at he
      ·rename_i hb2;cases he;refine key _ _ _ _ _ ?_;unfold Instr.sliceBounds;simp only;rw [run_ok (run_pure _ P w)]
       try simp only
       rw [run_ok (hb _ _ _ _ _ hb2.1 hb2.2 rfl)];rfl
      ·cases he
    | some ll=>
     cases hi with
     | none=>
      simp only [Option.isSome_none,Option.isSome_some,Option.toList_none,Option.toList_some,List.append_nil,List.map_cons,List.map_nil] at hs he;show (Instr.sliceAt t (ρ x) (some (ρ ll)) none none).run P w=_;cases hx:ρ x<;>rw [hx] at he<;>simp only [dfe] at he<;>try cases he
      cases hy:ρ ll<;>rw [hy] at he<;>simp only at he<;>try cases he
      split at he
      ·rename_i hb2;cases he;refine key _ _ _ _ _ ?_;unfold Instr.sliceBounds;simp only;rw [run_ok (run_pure _ P w)]
       try simp only
       rw [run_ok (run_pure _ P w)]
       try simp only
       rw [run_ok (hb _ _ _ _ _ hb2.1 hb2.2 rfl)];rfl
      ·cases he
     | some hh=>
      simp only [Option.isSome_some,Option.toList_some,List.singleton_append,List.map_cons,List.map_nil] at hs he;show (Instr.sliceAt t (ρ x) (some (ρ ll)) (some (ρ hh)) none).run P w=_;cases hx:ρ x<;>rw [hx] at he<;>simp only [dfe] at he<;>try cases he
      cases hy:ρ ll<;>rw [hy] at he<;>(try simp only at he)<;>try cases he
      cases hz:ρ hh<;>rw [hz] at he<;>simp only at he<;>try cases he
      split at he
      ·rename_i hb2;cases he;refine key _ _ _ _ _ ?_;unfold Instr.sliceBounds;simp only;rw [run_ok (run_pure _ P w)]
       try simp only
       rw [run_ok (hb _ _ _ _ _ (by omega) (by omega) rfl)]
       try simp only
       rw [run_ok (hb _ _ _ _ _ hb2.1 (by omega) rfl)];rfl
      ·cases he
   ·cases hc
 | call c=>
  rw [hop] at hc;obtain ⟨callee,args,ats⟩:=c;simp only [chkData] at hc;cases callee with
  | builtin b=>
   simp only at hc;obtain ⟨cs,hex⟩:=exec_builtin (ρ:=ρ) hop;obtain ⟨args⟩:=args;obtain ⟨ats⟩:=ats;simp only at hc;unfold execOp at hex;rw [hop] at hex;simp only at hex ⊢;rw [hex];unfold chkBuiltin at hc;split at hc
   ·split at hc
    ·rename_i hu;cases hc;simp only [List.map_cons,List.map_nil] at hs he;cases hx:ρ _<;>rw [hx] at he<;>simp [dfe] at he;subst he;refine run_value ?_;unfold Builtin.len_;simp only [List.map_toArray,List.map_cons,List.map_nil,List.getElem?_toArray,List.getElem?_cons_zero,hx];rw [run_ok (run_underlying hu w)];rfl
    ·cases hc
   ·cases hc;simp only [List.map_cons,List.map_nil] at hs he;rename_i x z;cases hx:ρ x<;>rw [hx] at he<;>simp [dfe] at he;cases hz:ρ z<;>rw [hz] at he<;>simp [dfe] at he;subst he;refine run_value ?_;unfold Builtin.min_;simp only [List.map_toArray,List.map_cons,List.map_nil,hx,hz];rfl
   ·cases hc;simp only [List.map_cons,List.map_nil] at hs he;rename_i x z;cases hx:ρ x<;>rw [hx] at he<;>simp [dfe] at he;cases hz:ρ z<;>rw [hz] at he<;>simp [dfe] at he;subst he;refine run_value ?_;unfold Builtin.max_;simp only [List.map_toArray,List.map_cons,List.map_nil,hx,hz];rfl
   ·cases hc
  | _=>simp at hc
 | _=>rw [hop] at hc;simp [chkData] at hc
end Go.Fw
namespace Go.Fw
inductive Eff where
 | det (f:(Nat->AV)->Option (List AV))
 | call (K:FuncId) (sg:Sig) (args:(Nat->AV)->Option (List (List A))) (post:List A->List (List A)->(Nat->AV)->Option (List AV))
def Eff.rel (P:Program):Eff->(Nat->AV)->List AV->Prop
 | .det f,s,v=>f s=some v
 | .call K sg args post,s,v=>∃as res outs,args s=some as/\Good P K sg as res outs/\post res outs s=some v
structure Stp where
 up:List (Nat × TT)
 kl:TT->TT
 rd:List Nat
 eff:Eff
def upds {α:Type} (f:Nat->α):List (Nat × α)->Nat->α
 | [],t=>f t
 | (d,x)::l,t=>if t=d then x else upds f l t
theorem upds_one {α:Type} (f:Nat->α) (d:Nat) (x:α):upds f [(d,x)]=upd f d x:=by funext t;simp [upds,upd]
def StpOk (P:Program) (N:Nat) (o:Oper) (g:Nat->TT) (S:Stp):Prop:=
 ∀(ac:Nat->Nat->Value) (κ0 κ:Col) (w0 w:World) (tg:Nat->TT) (sv s:Nat->AV) (a:Act) (v:List AV) (next:Act->World->Prop) (Q:Exit->Act->World->Prop),
  a.tmps.size=N->R ac κ0 w0 κ w N tg sv (gm a)->Le g s tg sv->S.eff.rel P s v ->
  (∀x w' κ' tg' sv',R ac κ0 w0 κ' w' N tg' sv' (gm (a.put o.dst x))->(∀t,tg' t=upds (fun t=>S.kl (tg t)) S.up t)->(∀t,sv' t=upds sv ((S.up.map (·.1)).zip v) t)->next (a.put o.dst x) w') ->
  o.wp P a w next Q
theorem wp_value {P:Program} {o:Oper} {a:Act} {w w':World} {next:Act->World->Prop} {Q:Exit->Act->World->Prop} {x:Value} (h:(execOp a.eval o).run P w = .ok (.value x) w') (hn:next (a.put o.dst x) w') :
  o.wp P a w next Q:=by
 unfold Oper.wp;rw [h];exact hn
theorem wp_skipv {P:Program} {o:Oper} {a:Act} {w w':World} {next:Act->World->Prop} {Q:Exit->Act->World->Prop} (h:(execOp a.eval o).run P w = .ok .skip w') (hn:next (a.put o.dst undef) w') :
  o.wp P a w next Q:=by
 unfold Oper.wp;rw [h];exact hn
def DX.rd:DX->List Nat
 | .t i=>[i]
 | .c _=>[]
def effData (f:DF) (Xs:List DX) (s:Nat->AV):Option (List AV):=
 match DXs s Xs with
 | some vs=>match dfe f vs with
  | some y=>some [.v [.v y] []]
  | none=>none
 | none=>none
def Stp.set (d:Nat) (tag:TT) (rd:List Nat) (eff:Eff):Stp:=⟨[(d,tag)],fun T=>T.kill [d] [],rd,eff⟩
def Stp.mv (d:Nat) (srcs:List Nat) (tag:TT) (rd:List Nat) (eff:Eff):Stp:=⟨(d,tag)::srcs.map (fun t=>(t,.dead)),fun T=>T.kill (d::srcs) srcs,rd,eff⟩
def Cont (N:Nat) (o:Oper) (S:Stp) (ac:Nat->Nat->Value) (κ0:Col) (w0:World) (tg:Nat->TT) (sv:Nat->AV) (a:Act) (v:List AV) (next:Act->World->Prop):Prop:=
 ∀x w' κ' tg' sv',R ac κ0 w0 κ' w' N tg' sv' (gm (a.put o.dst x))->(∀t,tg' t=upds (fun t=>S.kl (tg t)) S.up t)->(∀t,sv' t=upds sv ((S.up.map (·.1)).zip v) t)->next (a.put o.dst x) w'
section
variable {P:Program} {ac:Nat->Nat->Value} {κ0 κ':Col} {w0 w w':World} {N:Nat} {o:Oper} {tg:Nat->TT} {sv:Nat->AV} {a:Act} {next:Act->World->Prop} {Q:Exit->Act->World->Prop} {d:Nat} {tag:TT} {av:AV} {x:Value} {rd srcs:List Nat} {eff:Eff}
theorem fin_set (hd:o.dst=some d) (hN:a.tmps.size=N) (hdN:d<N) (hrun:(execOp a.eval o).run P w = .ok (.value x) w')
  (hR:R ac κ0 w0 κ' w' N (setT tg d tag) (upd sv d av) (upd (gm a) d x)) (hn:Cont N o (Stp.set d tag rd eff) ac κ0 w0 tg sv a [av] next):o.wp P a w next Q:=by
 refine wp_value hrun (hn x w' κ' (setT tg d tag) (upd sv d av) ?_ (fun t => ?_) (fun t => ?_))
 ·rw [hd,gm_put (by omega)];exact hR
 ·show _=upds _ [(d,tag)] t;rw [upds_one];rfl
 ·show _=upds sv [(d,av)] t;rw [upds_one]
theorem upds_dead (f:Nat->TT) (srcs:List Nat) (t:Nat):upds f (srcs.map fun t=>(t,TT.dead)) t=if t∈srcs then .dead else f t:=by
 induction srcs with
 | nil=>simp [upds]
 | cons s srcs ih=>
  simp only [List.map_cons,upds,List.mem_cons,ih];by_cases h:t=s
  ·simp [h]
  ·simp [h]
theorem fin_mv (hd:o.dst=some d) (hN:a.tmps.size=N) (hdN:d<N) (hrun:(execOp a.eval o).run P w = .ok (.value x) w')
  (hR:R ac κ0 w0 κ' w' N (upd (fun t=>if t∈srcs then .dead else (tg t).kill (d::srcs) srcs) d tag) (upd sv d av) (upd (gm a) d x))
  (hn:Cont N o (Stp.mv d srcs tag rd eff) ac κ0 w0 tg sv a [av] next):o.wp P a w next Q:=by
 refine wp_value hrun (hn x w' κ' (upd (fun t=>if t∈srcs then .dead else (tg t).kill (d::srcs) srcs) d tag) (upd sv d av) ?_ (fun t => ?_) (fun t => ?_))
 ·rw [hd,gm_put (by omega)];exact hR
 ·show _=upds _ ((d,tag)::srcs.map fun t=>(t,.dead)) t;simp only [upds,upd,upds_dead];rfl
 ·show _=upds sv (((d,tag)::srcs.map fun t=>(t,TT.dead)).map (·.1) |>.zip [av]) t;simp [upds,upd]
end
def stpData (P:Program) (N:Nat) (g:Nat->TT) (o:Oper):Option Stp:=
 match o.dst,chkData P o.op with
 | some d,some (f,xs)=>match dataXs g xs with
  | some Xs=>if d<N then some (Stp.set d (.val false [.d]) (Xs.flatMap DX.rd) (.det (effData f Xs))) else none
  | none=>none
 | _,_=>none
theorem stpData_ok {P:Program} {N:Nat} {g:Nat->TT} {o:Oper} {S:Stp} (h:stpData P N g o=some S):StpOk P N o g S:=by
 unfold stpData at h;split at h;case h_2=>cases h
 case h_1 d f xs hd hc=>
 split at h;case h_2=>cases h
 case h_1 Xs hX=>
 split at h;case isFalse=>cases h
 case isTrue hdN=>
 cases h;intro ac κ0 κ w0 w tg sv s a v next Q hN hR hL hv hn;simp only [Stp.set,Eff.rel,effData] at hv;split at hv;case h_2=>cases hv
 case h_1 vs hvs=>
 split at hv;case h_2=>cases hv
 case h_1 y hy=>
 cases hv;obtain ⟨e1,e2⟩:=dataXs_ok hR hL hX hvs;exact fin_set hd hN hdN (chkData_ok (y:=y) hc (by rw [e1];exact e2) (by rw [e1];exact hy)) (R_data hR hdN (dfe_sc e2 hy) (Grows.refl w)) hn
def ctys (P:Program):Nat->TypeId->Option (List CT)
 | 0,_=>none
 | f+1,t=>match P.underlying t with
  | some .bool=>some [.d]
  | some (.int _)=>some [.d]
  | some .string=>some [.d]
  | some (.slice e)=>(ctys P f e).map fun c=>[.sl (.own none) c]
  | some (.struct fs)=>fs.toList.foldr (fun fl acc=>match ctys P f fl.type,acc with
   | some a,some b=>some (a++b)
   | _,_=>none) (some [])
  | _=>none
def zA:List CT->List Value->Option (List A)
 | [],[]=>some []
 | .d::cs,x::vs=>if sc x then (zA cs vs).map (.v x :: ·) else none
 | .sl _ _::cs,.slice none 0 0::vs=>(zA cs vs).map (.s [] :: ·)
 | _,_=>none
theorem zA_ZR:∀{cs:List CT} {vs:List Value} {as:List A},zA cs vs=some as->ZR cs vs as
 | [],[],as,h=>by simp only [zA,Option.some.injEq] at h;subst h;simp [ZR]
 | .d::cs,x::vs,as,h=>by
  simp only [zA] at h;split at h
  ·rename_i hs;simp only [Option.map_eq_some_iff] at h;obtain ⟨as',h',rfl⟩:=h;simp only [ZR];exact ⟨trivial,hs,zA_ZR h'⟩
  ·cases h
 | .sl m e::cs,x::vs,as,h=>by
  unfold zA at h;split at h
  ·rename_i h1 h2;cases h1
  ·rename_i h1 _;cases h1
  ·rename_i h1 h2;cases h1;cases h2;simp only [Option.map_eq_some_iff] at h;obtain ⟨as',h',rfl⟩:=h;simp only [ZR];exact ⟨trivial,zA_ZR h'⟩
  ·cases h
 | [],_::_,as,h=>by simp [zA] at h
 | .d::_,[],as,h=>by simp [zA] at h
 | .sl _ _::_,[],as,h=>by simp [zA] at h
structure OX where
 ag:Bool
 cs:List CT
 t:Nat
 own:Bool
 get:(Nat->AV)->Option (List A)
 rd:List Nat
def getA (t:Nat) (s:Nat->AV):Option (List A):=
 match s t with
 | .v as _=>some as
 | _=>none
def fuel:Nat:=12
def opX (P:Program) (g:Nat->TT) (ty:TypeId) (dummy:Nat):Operand->Option OX
 | .tmp t=>match g t with
  | .val ag cs=>some ⟨ag,cs,t,!CT.nowns cs,getA t,[t]⟩
  | .alias ag cs _ _ _ _=>if CT.nowns cs then some ⟨ag,cs,t,false,getA t,[t]⟩ else none
  | _=>none
 | .const v=>match aggT P ty,ctys P fuel ty with
  | some ag,some Z=>match cellsOf ag v with
   | some vs=>match zA Z vs with
    | some as=>if noPin Z then some ⟨ag,Z,FB+1+dummy,true,fun _=>some as,[]⟩ else none
    | none=>none
   | none=>none
  | _,_=>none
 | _=>none
theorem killC_keep {M:List Nat} {cs:List CT} (h:CT.mens M cs=false):cs.map (killC M)=cs:=killC_same h
section
variable {P:Program} {ac:Nat->Nat->Value} {κ0 κ:Col} {w0 w:World} {N:Nat} {tg g:Nat->TT} {sv s:Nat->AV} {a:Act}
theorem opX_ok (h:R ac κ0 w0 κ w N tg sv (gm a)) (hL:Le g s tg sv) {ty:TypeId} {dummy:Nat} {x:Operand} {X:OX} (hx:opX P g ty dummy x=some X) {as:List A} (hg:X.get s=some as) :
  ∃vs,cellsOf X.ag (a.eval x)=some vs/\vs.length=X.cs.length/\RCL κ w X.cs (X.t,[]) 0 (fun k=>vs.getD k undef) as/\(X.own=false->CT.nowns X.cs=true)/\X.t≠FB /\
   Pins ac X.cs (fun k=>vs.getD k undef):=by
 cases x with
 | tmp t=>
  simp only [opX] at hx;split at hx
  ·rename_i ag cs hT;cases hx;obtain ⟨e1,e2⟩:=hL.at hT (by simp);have h1:=h.tr t;rw [e1] at h1;simp only [TR] at h1;obtain ⟨as',vs,g1,g2,g3,g4,g5⟩:=h1;rw [e2] at g1;simp only [getA,g1,Option.some.injEq] at hg;subst hg;refine ⟨vs,g2,g3,g5,fun hn=>by simpa using hn,fun he => ?_,g4⟩;simp only at he;have:=h.out t (by have:=h.nle;omega);rw [e1] at this;cases this
  ·rename_i ag cs r sk off S0 hT;split at hx;case isFalse=>cases hx
   case isTrue hn=>
   cases hx;obtain ⟨e1,e2⟩:=hL.at hT (by simp);have h1:=h.tr t;rw [e1] at h1;simp only [TR] at h1;obtain ⟨as',is,vs,gf,ra,row,g1,g2,g3,g4,g5,_⟩:=h1;rw [e2] at g1;simp only [getA,g1,Option.some.injEq] at hg;subst hg;refine ⟨vs,g2,g3,g5,fun _=>hn,fun he => ?_,?_⟩
   ·simp only at he;have:=h.out t (by have:=h.nle;omega);rw [e1] at this;cases this
   ·intro k j c e hc;have:=nowns_nth hn hc;simp [CT.nown] at this
  ·cases hx
 | const v=>
  simp only [opX] at hx;split at hx;case h_2=>cases hx
  case h_1 ag Z h1 h2=>
  split at hx;case h_2=>cases hx
  case h_1 vs hvs=>
  split at hx;case h_2=>cases hx
  case h_1 as' has=>
  split at hx;case isFalse=>cases hx
  case isTrue hpin=>
  cases hx;simp only [Option.some.injEq] at hg;subst hg;have hz:=zA_ZR has;exact ⟨vs,hvs,ZR_len hz,ZR_RCL hz (fun i _=>by simp),fun he=>by simp at he,by simp only;omega,noPin_pins hpin⟩
 | global _=>simp [opX] at hx
 | func _=>simp [opX] at hx
where
 nowns_nth:∀{cs:List CT} {k:Nat} {c:CT},CT.nowns cs=true->cs[k]?=some c->c.nown=true
  | c::cs,0,c',h,hc=>by simp at hc;subst hc;simp only [CT.nowns,Bool.and_eq_true] at h;exact h.1
  | c::cs,k+1,c',h,hc=>by simp only [CT.nowns,Bool.and_eq_true] at h;exact nowns_nth h.2 (by simpa using hc)
  | [],_,_,_,hc=>by simp at hc
end
end Go.Fw
namespace Go.Fw
section
variable {ac:Nat->Nat->Value} {κ0 κ:Col} {w0 w w':World} {N:Nat} {tg:Nat->TT} {sv:Nat->AV} {tm:Nat->Value}
theorem R_const (h:R ac κ0 w0 κ w N tg sv tm) {d:Nat} (hd:d<N) {ag:Bool} {x:Value} {vs:List Value} {Z:List CT} {as:List A} (hx:cellsOf ag x=some vs) (hz:ZR Z vs as) (hp:noPin Z=true) (hw:Grows w w') :
  R ac κ0 w0 (recol κ (clrF d) none) w' N (setT tg d (.val ag Z)) (upd sv d (.v as [])) (upd tm d x):=by
 refine R_set0 h hd hw (fun _ _ h=>by cases h) ?_;simp only [TR,upd_self];exact ⟨as,vs,rfl,hx,ZR_len hz,noPin_pins hp,ZR_RCL hz fun i _=>by simp⟩
theorem R_dead (h:R ac κ0 w0 κ w N tg sv tm) {d:Nat} (hd:d<N) {av:AV} {x:Value} (hw:Grows w w') :
  R ac κ0 w0 (recol κ (clrF d) none) w' N (setT tg d .dead) (upd sv d av) (upd tm d x):=
 R_set0 h hd hw (fun _ _ h=>by cases h) (by simp [TR])
end
def effCopy (t:Nat) (s:Nat->AV):Option (List AV):=(getA t s).map fun as=>[.v as []]
def effSame (t:Nat) (s:Nat->AV):Option (List AV):=some [s t]
def mvT (N:Nat) (g:Nat->TT) (hint:Bool) (d t:Nat):Option Stp:=
 if d<N/\t≠d then match g t with
  | .val ag cs=>
   if CT.nowns cs then some (Stp.set d (.val ag cs) [t] (.det (effCopy t)))
   else if hint then
    if CT.lives cs then some (Stp.set d (.alias ag (CT.roizes (t::CT.srcss cs) cs) t [] 0 (t::CT.srcss cs)) [t] (.det (effCopy t))) else none
   else if CT.mens [t] cs then none else some (Stp.mv d [t] (.val ag cs) [t] (.det (effCopy t)))
  | .tup ws cs=>if CT.mens [t] cs then none else some (Stp.mv d [t] (.tup ws cs) [t] (.det (effCopy t)))
  | .alias ag cs r sk off S=>if r≠d/\CT.nowns cs then some (Stp.set d (.alias ag cs r sk off S) [t] (.det (effSame t))) else none
  | .ptr r sk off S=>if r≠d then some (Stp.set d (.ptr r sk off S) [t] (.det (effSame t))) else none
  | .box _=>some (Stp.set d (.ptr t [] 0 [t]) [] (.det fun _=>some [.p []]))
  | .dead=>none
 else none
def stpMove (P:Program) (N:Nat) (g:Nat->TT) (hint:Bool) (o:Oper):Option Stp:=
 match o.dst,o.op with
 | some d,.move (.tmp t)=>mvT N g hint d t
 | some d,.assign (.tmp t)=>mvT N g hint d t
 | some d,.nilCheck (.tmp t)=>match g t with
  | .ptr _ _ _ _=>mvT N g hint d t
  | .box _=>mvT N g hint d t
  | _=>none
 | some d,.move (.const v)=>cst d v
 | some d,.assign (.const v)=>cst d v
 | _,_=>none
where
 cst (d:Nat) (v:Value):Option Stp:=
  if d<N then match v with
   | .pointer none=>some (Stp.set d .dead [] (.det fun _=>some [.n]))
   | v=>match opX P g o.type 0 (.const v) with
    | some X=>some (Stp.set d (.val X.ag X.cs) [] (.det fun _=>(X.get fun _=>.n).map fun as=>[.v as []]))
    | none=>none
  else none
theorem getA_some {t:Nat} {s:Nat->AV} {as:List A} (h:getA t s=some as):∃is,s t = .v as is:=by
 unfold getA at h;split at h
 ·rename_i is hs;cases h;exact ⟨_,hs⟩
 ·cases h
theorem mvT_ok {P:Program} {N:Nat} {g:Nat->TT} {hint:Bool} {d t:Nat} {o:Oper} {S:Stp} (hd:o.dst=some d) (h:mvT N g hint d t=some S)
  (hrun:∀(a:Act) (w:World),(∀(κ0 κ:Col) (ac:Nat->Nat->Value) (w0:World) (tg:Nat->TT) (sv s:Nat->AV),R ac κ0 w0 κ w N tg sv (gm a)->Le g s tg sv->(execOp a.eval o).run P w = .ok (.value (gm a t)) w)):StpOk P N o g S:=by
 unfold mvT at h;split at h;case isFalse=>cases h
 case isTrue hc=>
 obtain ⟨hdN,htd⟩:=hc;have hlt:∀{ac κ0 w0 κ w tg sv tm},R ac κ0 w0 κ w N tg sv tm->tg t≠.dead->t<N:=fun hR ht=>by
  apply Nat.lt_of_not_le;intro hle;exact ht (hR.out t hle)
 split at h
 ·rename_i ag cs hT;split at h
  ·rename_i hno;cases h;intro ac κ0 κ w0 w tg sv s a v next Q hN hR hL hv hn;simp only [Stp.set,Eff.rel,effCopy,Option.map_eq_some_iff] at hv;obtain ⟨as,hg,rfl⟩:=hv;obtain ⟨e1,e2⟩:=hL.at hT (by simp);have h1:=hR.tr t;rw [e1] at h1;simp only [TR] at h1;obtain ⟨as',vs,g1,_⟩:=h1;obtain ⟨is,hs⟩:=getA_some hg;rw [e2,hs] at g1;cases g1;exact fin_set hd hN hdN (hrun a w _ _ _ _ _ _ _ hR hL) (R_copy hR hdN e1 hno (by rw [e2,hs])) hn
  ·split at h
   ·split at h;case isFalse=>cases h
    case isTrue hlv=>
    cases h;intro ac κ0 κ w0 w tg sv s a v next Q hN hR hL hv hn;simp only [Stp.set,Eff.rel,effCopy,Option.map_eq_some_iff] at hv;obtain ⟨as,hg,rfl⟩:=hv;obtain ⟨e1,e2⟩:=hL.at hT (by simp);have h1:=hR.tr t;rw [e1] at h1;simp only [TR] at h1;obtain ⟨as',vs,g1,_⟩:=h1;obtain ⟨is,hs⟩:=getA_some hg;rw [e2,hs] at g1;cases g1;exact fin_set hd hN hdN (hrun a w _ _ _ _ _ _ _ hR hL) (R_alias hR hdN htd e1 hlv (by rw [e2,hs]) (by simp) (fun r hr=>by simp [hr])) hn
   ·split at h;case isTrue=>cases h
    case isFalse hm=>
    cases h;intro ac κ0 κ w0 w tg sv s a v next Q hN hR hL hv hn;simp only [Stp.mv,Eff.rel,effCopy,Option.map_eq_some_iff] at hv;obtain ⟨as,hg,rfl⟩:=hv;obtain ⟨e1,e2⟩:=hL.at hT (by simp);have h1:=hR.tr t;rw [e1] at h1;simp only [TR] at h1;obtain ⟨as',vs,g1,_⟩:=h1;obtain ⟨is,hs⟩:=getA_some hg;rw [e2,hs] at g1;cases g1;exact fin_mv hd hN hdN (hrun a w _ _ _ _ _ _ _ hR hL) (R_move hR hdN (hlt hR (by simp [e1])) e1 (by simpa using hm) (by rw [e2,hs])) hn
 ·rename_i ws cs hT;split at h;case isTrue=>cases h
  case isFalse hm=>
  cases h;intro ac κ0 κ w0 w tg sv s a v next Q hN hR hL hv hn;simp only [Stp.mv,Eff.rel,effCopy,Option.map_eq_some_iff] at hv;obtain ⟨as,hg,rfl⟩:=hv;obtain ⟨e1,e2⟩:=hL.at hT (by simp);have h1:=hR.tr t;rw [e1] at h1;simp only [TR] at h1;obtain ⟨as',xs,vs,g1,_⟩:=h1;obtain ⟨is,hs⟩:=getA_some hg;rw [e2,hs] at g1;cases g1;exact fin_mv hd hN hdN (hrun a w _ _ _ _ _ _ _ hR hL) (R_movet hR hdN (hlt hR (by simp [e1])) e1 (by simpa using hm) (by rw [e2,hs])) hn
 ·rename_i ag cs r sk off S0 hT;split at h;case isFalse=>cases h
  case isTrue hr=>
  cases h;intro ac κ0 κ w0 w tg sv s a v next Q hN hR hL hv hn;simp only [Stp.set,Eff.rel,effSame,Option.some.injEq] at hv;subst hv;obtain ⟨e1,e2⟩:=hL.at hT (by simp);exact fin_set hd hN hdN (hrun a w _ _ _ _ _ _ _ hR hL) (by rw [<-e2];exact R_cpalias hR hdN e1 hr.1 hr.2) hn
 ·rename_i r sk off S0 hT;split at h;case isFalse=>cases h
  case isTrue hr=>
  cases h;intro ac κ0 κ w0 w tg sv s a v next Q hN hR hL hv hn;simp only [Stp.set,Eff.rel,effSame,Option.some.injEq] at hv;subst hv;obtain ⟨e1,e2⟩:=hL.at hT (by simp);exact fin_set hd hN hdN (hrun a w _ _ _ _ _ _ _ hR hL) (by rw [<-e2];exact R_cpptr hR hdN e1 hr) hn
 ·rename_i cs hT;cases h;intro ac κ0 κ w0 w tg sv s a v next Q hN hR hL hv hn;simp only [Stp.set,Eff.rel,Option.some.injEq] at hv;subst hv;obtain ⟨e1,e2⟩:=hL.at hT (by simp);exact fin_set hd hN hdN (hrun a w _ _ _ _ _ _ _ hR hL) (R_ptr hR hdN htd e1) hn
 ·cases h
theorem cst_ok {P:Program} {N:Nat} {g:Nat->TT} {o:Oper} {d:Nat} {v:Value} {S:Stp} (hd:o.dst=some d) (h:stpMove.cst P N g o d v=some S)
  (hrun:∀(a:Act) (w:World),(execOp a.eval o).run P w = .ok (.value v) w):StpOk P N o g S:=by
 unfold stpMove.cst at h;split at h;case isFalse=>cases h
 case isTrue hdN=>
 split at h
 ·cases h;intro ac κ0 κ w0 w tg sv s a v next Q hN hR hL hv hn;simp only [Stp.set,Eff.rel,Option.some.injEq] at hv;subst hv;exact fin_set hd hN hdN (hrun a w) (R_dead hR hdN (Grows.refl w)) hn
 ·split at h;case h_2=>cases h
  case h_1 X hX=>
  cases h;intro ac κ0 κ w0 w tg sv s a v' next Q hN hR hL hv hn;simp only [Stp.set,Eff.rel,Option.map_eq_some_iff] at hv;obtain ⟨as,hg,rfl⟩:=hv;simp only [opX] at hX;split at hX;case h_2=>cases hX
  case h_1 ag Z h1 h2=>
  split at hX;case h_2=>cases hX
  case h_1 vs hvs=>
  split at hX;case h_2=>cases hX
  case h_1 as' has=>
  split at hX;case isFalse=>cases hX
  case isTrue hpin=>
  cases hX;simp only [Option.some.injEq] at hg;subst hg;exact fin_set hd hN hdN (hrun a w) (R_const hR hdN hvs (zA_ZR has) hpin (Grows.refl w)) hn
theorem stpMove_ok {P:Program} {N:Nat} {g:Nat->TT} {hint:Bool} {o:Oper} {S:Stp} (h:stpMove P N g hint o=some S):StpOk P N o g S:=by
 unfold stpMove at h;split at h
 ·rename_i d t hd ho;refine mvT_ok hd h fun a w _ _ _ _ _ _ _ _ _ => ?_
  unfold execOp;rw [ho];rfl
 ·rename_i d t hd ho;refine mvT_ok hd h fun a w _ _ _ _ _ _ _ _ _ => ?_
  unfold execOp;rw [ho];rfl
 ·rename_i d t hd ho;split at h
  ·rename_i r sk off S0 hT;refine mvT_ok hd h fun a w _ _ _ _ tg sv s hR hL => ?_
   obtain ⟨e1,e2⟩:=hL.at hT (by simp);have h1:=hR.tr t;rw [e1] at h1;simp only [TR] at h1;obtain ⟨is,B,O,_,_,_,_,h5⟩:=h1;unfold execOp;rw [ho];have:a.eval (.tmp t)=gm a t:=rfl;simp only [this,h5];rfl
  ·rename_i cs hT;refine mvT_ok hd h fun a w _ _ _ _ tg sv s hR hL => ?_
   obtain ⟨e1,e2⟩:=hL.at hT (by simp);have h1:=hR.tr t;rw [e1] at h1;simp only [TR] at h1;obtain ⟨as,b,_,h5,_⟩:=h1;unfold execOp;rw [ho];have:a.eval (.tmp t)=gm a t:=rfl;simp only [this,h5];rfl
  ·cases h
 ·rename_i d v hd ho;refine cst_ok hd h fun a w => ?_
  unfold execOp;rw [ho];rfl
 ·rename_i d v hd ho;refine cst_ok hd h fun a w => ?_
  unfold execOp;rw [ho];rfl
 ·cases h
end Go.Fw
namespace Go.Fw
structure PX where
 r:Nat
 sk:Sk
 off:Nat
 S:List Nat
 idx:(Nat->AV)->Option (List Nat)
 rd:List Nat
def getP (t:Nat) (s:Nat->AV):Option (List Nat):=
 match s t with
 | .p is=>some is
 | _=>none
def plX (g:Nat->TT):Operand->Option PX
 | .tmp t=>match g t with
  | .ptr r sk off S=>some ⟨r,sk,off,S,getP t,[t]⟩
  | .box _=>some ⟨t,[],0,[t],fun _=>some [],[]⟩
  | _=>none
 | _=>none
section
variable {P:Program} {ac:Nat->Nat->Value} {κ0 κ:Col} {w0 w:World} {N:Nat} {tg g:Nat->TT} {sv s:Nat->AV} {a:Act}
theorem plX_ok (h:R ac κ0 w0 κ w N tg sv (gm a)) (hL:Le g s tg sv) {x:Operand} {X:PX} (hx:plX g x=some X) {is:List Nat} (hi:X.idx s=some is) :
  ∃B O,Pla κ w tg (gm a) X.r X.sk is X.S B O/\a.eval x = .pointer (some ⟨B,O+X.off,none⟩):=by
 cases x with
 | tmp t=>
  simp only [plX] at hx;split at hx
  ·rename_i r sk off S hT;cases hx;obtain ⟨e1,e2⟩:=hL.at hT (by simp);simp only [getP] at hi;split at hi
   ·rename_i is' hs;cases hi;exact h.pla_ptr e1 (by rw [e2,hs])
   ·cases hi
  ·rename_i cs hT;cases hx;obtain ⟨e1,e2⟩:=hL.at hT (by simp);simp only [Option.some.injEq] at hi;subst hi;obtain ⟨B,h1,h2⟩:=h.pla_box e1;exact ⟨B,0,h1,h2⟩
  ·cases hx
 | _=>simp [plX] at hx
theorem cts_ok (hL:Le g s tg sv) {r:Nat} {cs:List CT} (h:(g r).cts=some cs):(tg r).cts=some cs/\sv r=s r:=by
 have hne:g r≠.dead:=fun he=>by rw [he] at h;simp [TT.cts] at h
 obtain ⟨e1,e2⟩:=hL.at rfl hne;exact ⟨by rw [e1];exact h,e2⟩
theorem R.sv_root {tm:Nat->Value} (h:R ac κ0 w0 κ w N tg sv tm) {r:Nat} {cs:List CT} (ht:(tg r).cts=some cs):∃ra,sv r = .v ra []:=by
 have h1:=h.tr r;cases hT:tg r<;>rw [hT] at ht h1<;>simp [TT.cts] at ht
 ·simp only [TR] at h1;obtain ⟨as,vs,g1,_⟩:=h1;exact ⟨as,g1⟩
 ·simp only [TR] at h1;obtain ⟨as,b,g1,_⟩:=h1;exact ⟨as,g1⟩
end
def lookP (X:PX) (s:Nat->AV):Option (List A × List Nat):=
 match X.idx s,getA X.r s with
 | some is,some ra=>match lookL ra X.sk is with
  | some row=>some (row,is)
  | none=>none
 | _,_=>none
def effLoad (X:PX) (n:Nat) (al:Bool) (s:Nat->AV):Option (List AV):=
 match lookP X s with
 | some (row,is)=>some [.v ((row.drop X.off).take n) (if al then is else [])]
 | none=>none
def stpLoad (P:Program) (N:Nat) (g:Nat->TT) (o:Oper):Option Stp:=
 match o.dst,o.op with
 | some d,.load t x=>match plX g x,P.info? t,aggT P t with
  | some X,some i,some ag=>match (g X.r).cts with
   | some cs=>match tagL false cs X.sk with
    | some e=>
     let c:=(e.drop X.off).take i.size
     if d<N/\X.off+i.size<=e.length/\CT.lives c=true/\(ag=true\/i.size=1) then
      if CT.nowns c/\noPin c then some (Stp.set d (.val ag c) (X.r::X.rd) (.det (effLoad X i.size false)))
      else if X.r≠d then
       let S':=X.r::(X.S++CT.srcss c)
       some (Stp.set d (.alias ag (CT.roizes S' c) X.r X.sk X.off S') (X.r::X.rd) (.det (effLoad X i.size true)))
      else none
     else none
    | none=>none
   | none=>none
  | _,_,_=>none
 | _,_=>none
theorem lookP_some {X:PX} {s:Nat->AV} {row:List A} {is:List Nat} (h:lookP X s=some (row,is)):X.idx s=some is/\∃ra,getA X.r s=some ra/\lookL ra X.sk is=some row:=by
 unfold lookP at h;split at h
 ·rename_i is' ra h1 h2;split at h
  ·rename_i row' h3;cases h;exact ⟨h1,ra,h2,h3⟩
  ·cases h
 ·cases h
theorem stpLoad_ok {P:Program} {N:Nat} {g:Nat->TT} {o:Oper} {S:Stp} (h:stpLoad P N g o=some S):StpOk P N o g S:=by
 unfold stpLoad at h;split at h;case h_2=>cases h
 case h_1 d t x hd ho=>
 split at h;case h_2=>cases h
 case h_1 X i ag hX hi hag=>
 split at h;case h_2=>cases h
 case h_1 cs hcs=>
 split at h;case h_2=>cases h
 case h_1 e he=>
 simp only at h;split at h;case isFalse=>cases h
 case isTrue hc=>
 obtain ⟨hdN,hn,hlv,hag1⟩:=hc;have hag1':ag=false->i.size=1:=fun hf=>by rcases hag1 with h1|h1<;>simp_all
 -- what the load runs to
 have main:∀(ac:Nat->Nat->Value) (κ0 κ:Col) (w0 w:World) (tg:Nat->TT) (sv s:Nat->AV) (a:Act) (row:List A) (is:List Nat),R ac κ0 w0 κ w N tg sv (gm a)->Le g s tg sv->lookP X s=some (row,is) ->
   ∃B O v ra,Pla κ w tg (gm a) X.r X.sk is X.S B O/\(tg X.r).cts=some cs/\sv X.r = .v ra []/\lookL ra X.sk is=some row/\(execOp a.eval o).run P w = .ok (.value v) w /\
    (ag=true->v = .agg ((List.range i.size).map fun k=>cellD w B (O+X.off+k)).toArray)/\(ag=false->v=cellD w B (O+X.off)/\i.size=1):=by
  intro ac κ0 κ w0 w tg sv s a row is hR hL hlk;obtain ⟨hidx,ra,hra,hlk⟩:=lookP_some hlk;obtain ⟨B,O,hp,hev⟩:=plX_ok hR hL hX hidx;obtain ⟨hcs',hsv⟩:=cts_ok hL hcs;obtain ⟨ra',hra'⟩:=hR.sv_root hcs';obtain ⟨is',hs'⟩:=getA_some hra;rw [hsv,hs'] at hra';cases hra';have hsr:sv X.r = .v ra []:=by rw [hsv,hs']
  obtain ⟨oo,p,j,_,hrd,_⟩:=hR.row hcs' hsr hp he hlk;obtain ⟨v,hrun,h1,h0⟩:=run_loadAt (P:=P) hi hag hag1' (b:=B) (o:=O+X.off) (w:=w) fun k hk1 hk2=>hrd k (by omega) (by omega)
  refine ⟨B,O,v,ra,hp,hcs',hsr,hlk,?_,h1,fun hf=>⟨h0 hf,hag1' hf⟩⟩;unfold execOp;rw [ho];simp only;exact run_value (by rw [hev];exact hrun)
 split at h
 ·rename_i hnn;cases h;intro ac κ0 κ w0 w tg sv s a v next Q hN hR hL hv hcont;simp only [Stp.set,Eff.rel,effLoad] at hv;split at hv;case h_2=>cases hv
  case h_1 row is hlk=>
  cases hv;obtain ⟨B,O,v,ra,hp,hcs',hsr,hlk',hrun,h1,h0⟩:=main _ _ _ _ _ _ _ _ _ _ _ hR hL hlk;exact fin_set hd hN hdN hrun (R_load hR hdN hcs' hsr hp he hlk' hn hnn.1 hnn.2 h1 h0 hlv) hcont
 ·split at h;case isFalse=>cases h
  case isTrue hrd=>
  cases h;intro ac κ0 κ w0 w tg sv s a v next Q hN hR hL hv hcont;simp only [Stp.set,Eff.rel,effLoad] at hv;split at hv;case h_2=>cases hv
  case h_1 row is hlk=>
  cases hv;obtain ⟨B,O,v,ra,hp,hcs',hsr,hlk',hrun,h1,h0⟩:=main _ _ _ _ _ _ _ _ _ _ _ hR hL hlk;exact fin_set hd hN hdN hrun (R_loada hR hdN hrd hcs' hsr hp he hlk' hn h1 h0 hlv (by simp) (fun q hq=>by simp [hq]) (fun q hq=>by simp [hq])) hcont
def effIdx (X:PX) (s:Nat->AV):Option (List AV):=(X.idx s).map fun is=>[.p is]
def stpField (P:Program) (N:Nat) (g:Nat->TT) (o:Oper):Option Stp:=
 match o.dst,o.op with
 | some d,.fieldAddr st x f=>match plX g x,P.underlying st with
  | some X,some (.struct fs)=>match fs[f]? with
   | some fi=>match P.info? fi.type with
    | some i=>if d<N/\i.size≠0/\X.r≠d then some (Stp.set d (.ptr X.r X.sk (X.off+fi.offset) X.S) X.rd (.det (effIdx X))) else none
    | none=>none
   | none=>none
  | _,_=>none
 | _,_=>none
theorem stpField_ok {P:Program} {N:Nat} {g:Nat->TT} {o:Oper} {S:Stp} (h:stpField P N g o=some S):StpOk P N o g S:=by
 unfold stpField at h;split at h;case h_2=>cases h
 case h_1 d st x f hd ho=>
 split at h;case h_2=>cases h
 case h_1 X fs hX hfs=>
 split at h;case h_2=>cases h
 case h_1 fi hfi=>
 split at h;case h_2=>cases h
 case h_1 i hi=>
 split at h;case isFalse=>cases h
 case isTrue hc=>
 cases h;intro ac κ0 κ w0 w tg sv s a v next Q hN hR hL hv hcont;simp only [Stp.set,Eff.rel,effIdx,Option.map_eq_some_iff] at hv;obtain ⟨is,hidx,rfl⟩:=hv;obtain ⟨B,O,hp,hev⟩:=plX_ok hR hL hX hidx;refine fin_set hd hN hc.1 (w':=w) (x:=.pointer (some ⟨B,O+(X.off+fi.offset),none⟩)) ?_ (R_setptr hR hc.1 hc.2.2 hp) hcont;unfold execOp;rw [ho];simp only;refine run_value ?_;rw [hev,run_fieldAt hfs hfi hi hc.2.1,Nat.add_assoc]
structure SX where
 r:Nat
 sk:Sk
 c:Nat
 S:List Nat
 e:List CT
 t:Nat
def slX (g:Nat->TT):Operand->Option SX
 | .tmp t=>match g t with
  | .val false [.sl (.own _) e]=>some ⟨t,[],0,[t],e,t⟩
  | .val false [.sl (.ro S) e]=>some ⟨t,[],0,S,e,t⟩
  | .alias false [.sl (.ro S0) e] r sk off S=>if S0.all (S.contains ·) then some ⟨r,sk,off,S,e,t⟩ else none
  | _=>none
 | _=>none
def getS (t:Nat) (s:Nat->AV):Option (List (List A) × List Nat):=
 match s t with
 | .v [.s xs] is=>some (xs,is)
 | _=>none
def toN:Value->Option Nat
 | .int _ n=>if 0<=n then some n.toNat else none
 | _=>none
def effIndex (X:SX) (I:DX) (s:Nat->AV):Option (List AV):=
 match getS X.t s,I.get s with
 | some (xs,is),some v=>match toN v with
  | some i=>if i<xs.length then some [.p (is++[i])] else none
  | none=>none
 | _,_=>none
def stpIndex (P:Program) (N:Nat) (g:Nat->TT) (o:Oper):Option Stp:=
 match o.dst,o.op with
 | some d,.indexAddr st x ix=>match slX g x,dataX g ix,P.underlying st with
  | some X,some I,some (.slice et)=>match P.info? et with
   | some i=>if d<N/\X.r≠d/\i.size=X.e.length then some (Stp.set d (.ptr X.r (X.sk++[(X.c,X.e.length)]) 0 X.S) (X.t::I.rd) (.det (effIndex X I))) else none
   | none=>none
  | _,_,_=>none
 | _,_=>none
section
variable {P:Program} {ac:Nat->Nat->Value} {κ0 κ:Col} {w0 w:World} {N:Nat} {tg g:Nat->TT} {sv s:Nat->AV} {a:Act}
theorem slX_ok (h:R ac κ0 w0 κ w N tg sv (gm a)) (hL:Le g s tg sv) {x:Operand} {X:SX} (hx:slX g x=some X) {xs:List (List A)} {is:List Nat} (hg:getS X.t s=some (xs,is)) {i:Nat} (hi:i<xs.length) (n:Nat) :
  ∃b o cap,a.eval x = .slice (some ⟨b,o,none⟩) xs.length cap/\Pla κ w tg (gm a) X.r (X.sk++[(X.c,n)]) (is++[i]) X.S b (o+i*n):=by
 cases x with
 | tmp t=>
  have hev:a.eval (.tmp t)=gm a t:=rfl;have hgs:∀t,getS t s=some (xs,is)->s t = .v [.s xs] is:=fun t ht=>by
   unfold getS at ht;split at ht
   ·rename_i xs' is' hs;cases ht;exact hs
   ·cases ht
  simp only [slX] at hx;split at hx
  ·rename_i k e hT;cases hx;obtain ⟨e1,e2⟩:=hL.at hT (by simp);have hs:=hgs t hg;have h1:=h.tr t;rw [e1] at h1;simp only [TR] at h1;obtain ⟨as,vs,g1,_⟩:=h1;rw [e2,hs] at g1;cases g1;rw [hev];exact h.pla_val e1 (.inr ⟨⟨_,rfl⟩,by simp⟩) (by rw [e2,hs]) hi n
  ·rename_i S e hT;cases hx;obtain ⟨e1,e2⟩:=hL.at hT (by simp);have hs:=hgs t hg;have h1:=h.tr t;rw [e1] at h1;simp only [TR] at h1;obtain ⟨as,vs,g1,_⟩:=h1;rw [e2,hs] at g1;cases g1;rw [hev];exact h.pla_val e1 (.inl ⟨_,rfl,fun r hr=>hr⟩) (by rw [e2,hs]) hi n
  ·rename_i S0 e r sk off S hT;split at hx;case isFalse=>cases hx
   case isTrue hS=>
   cases hx;obtain ⟨e1,e2⟩:=hL.at hT (by simp);have hs:=hgs t hg;rw [hev];exact h.pla_alias e1 (fun r hr=>by simpa using (List.all_eq_true.1 hS) r hr) (by rw [e2,hs]) hi n
  ·cases hx
 | _=>simp [slX] at hx
end
theorem toN_some {v:Value} {n:Nat} (h:toN v=some n):∃k m,v = .int k m/\0<=m/\n=m.toNat:=by
 unfold toN at h;split at h
 ·split at h
  ·cases h;exact ⟨_,_,rfl,by assumption,rfl⟩
  ·cases h
 ·cases h
theorem stpIndex_ok {P:Program} {N:Nat} {g:Nat->TT} {o:Oper} {S:Stp} (h:stpIndex P N g o=some S):StpOk P N o g S:=by
 unfold stpIndex at h;split at h;case h_2=>cases h
 case h_1 d st x ix hd ho=>
 split at h;case h_2=>cases h
 case h_1 X I et hX hI hst=>
 split at h;case h_2=>cases h
 case h_1 i hi=>
 split at h;case isFalse=>cases h
 case isTrue hc=>
 obtain ⟨hdN,hr,hsz⟩:=hc;cases h;intro ac κ0 κ w0 w tg sv s a v next Q hN hR hL hv hcont;simp only [Stp.set,Eff.rel,effIndex] at hv;split at hv;case h_2=>cases hv
 case h_1 xs is vi hS hv'=>
 split at hv;case h_2=>cases hv
 case h_1 n hn=>
 split at hv;case isFalse=>cases hv
 case isTrue hlt=>
 cases hv;obtain ⟨k,m,rfl,hm0,rfl⟩:=toN_some hn;obtain ⟨e1,_⟩:=dataX_ok hR hL hI hv';obtain ⟨b,oo,cap,hev,hp⟩:=slX_ok hR hL hX hS hlt X.e.length;refine fin_set hd hN hdN (w':=w) (x:=.pointer (some ⟨b,(oo+m.toNat*X.e.length)+0,none⟩)) ?_ (R_setptr hR hdN hr hp) hcont;unfold execOp;rw [ho];simp only;refine run_value ?_;rw [hev,e1,run_indexAt hst hi hm0 (by omega),hsz,Nat.add_zero]
theorem cells_of {ag:Bool} {x:Value} {vs:List Value} (h:cellsOf ag x=some vs):x.cells.toList=vs:=by
 unfold cellsOf at h;split at h
 ·cases h;rfl
 ·cases h
 ·cases h
 ·cases h
 ·cases h;rename_i h1 h2;cases x<;>first
   | rfl
   | (exact absurd rfl (h1 _))
def srcsOf (X:OX):List Nat:=if X.own then [X.t] else []
def effA (X:OX) (s:Nat->AV):Option (List AV):=(X.get s).map fun as=>[.v as []]
def stpBox (P:Program) (N:Nat) (g:Nat->TT) (o:Oper):Option Stp:=
 match o.dst,o.op with
 | some d,.box t x=>match opX P g t 0 x with
  | some X=>if d<N/\CT.mens (srcsOf X) X.cs=false then some (Stp.mv d (srcsOf X) (.box X.cs) X.rd (.det (effA X))) else none
  | none=>none
 | some d,.alloc t=>match P.info? t with
  | some i=>match i.zero with
   | some z=>match opX P g t d (.const z) with
    | some X=>if d<N/\CT.mens (srcsOf X) X.cs=false then some (Stp.mv d (srcsOf X) (.box X.cs) X.rd (.det (effA X))) else none
    | none=>none
   | none=>none
  | none=>none
 | _,_=>none
theorem part_of {P:Program} {ac:Nat->Nat->Value} {κ0 κ:Col} {w0 w:World} {N:Nat} {tg g:Nat->TT} {sv s:Nat->AV} {a:Act} (h:R ac κ0 w0 κ w N tg sv (gm a)) (hL:Le g s tg sv) {ty:TypeId} {dummy:Nat} {x:Operand} {X:OX}
  (hx:opX P g ty dummy x=some X) {as:List A} (hg:X.get s=some as) {srcs:List Nat} (hs:X.own=true->X.t∈srcs) (hm:CT.mens srcs X.cs=false) :
  ∃vs,cellsOf X.ag (a.eval x)=some vs/\Part κ w srcs X.t X.cs vs as/\Pins ac X.cs (fun k=>vs.getD k undef):=by
 obtain ⟨vs,h1,h2,h3,h4,h5,h6⟩:=opX_ok h hL hx hg;refine ⟨vs,h1,⟨h3,h2,?_,hm⟩,h6⟩;cases ho:X.own with
 | true=>exact .inl (hs ho)
 | false=>exact .inr (h4 ho)
theorem stpBox_ok {P:Program} {N:Nat} {g:Nat->TT} {o:Oper} {S:Stp} (h:stpBox P N g o=some S):StpOk P N o g S:=by
 have fbs:∀{x:Operand} {t:TypeId} {dm:Nat} {X:OX},opX P g t dm x=some X->∀(ac:Nat->Nat->Value) (κ0 κ:Col) (w0 w:World) (tg:Nat->TT) (sv s:Nat->AV) (a:Act) (as:List A),R ac κ0 w0 κ w N tg sv (gm a)->Le g s tg sv->X.get s=some as->FB∉srcsOf X:=by
  intro x t dm X hX ac κ0 κ w0 w tg sv s a as hR hL hg;obtain ⟨_,_,_,_,_,h5,_⟩:=opX_ok hR hL hX hg;unfold srcsOf;split
  ·simpa using fun he=>h5 he.symm
  ·simp
 have main:∀{x:Operand} {t:TypeId} {dm:Nat} {X:OX} {d:Nat},o.dst=some d->opX P g t dm x=some X->d<N->CT.mens (srcsOf X) X.cs=false ->
   (∀(a:Act) (w:World),(execOp a.eval o).run P w = .ok (.value (.pointer (some ⟨w.heap.size,0,none⟩))) (pushW w (a.eval x).cells t))->StpOk P N o g (Stp.mv d (srcsOf X) (.box X.cs) X.rd (.det (effA X))):=by
  intro x t dm X d hd hX hdN hm hrun ac κ0 κ w0 w tg sv s a v next Q hN hR hL hv hcont;simp only [Stp.mv,Eff.rel,effA,Option.map_eq_some_iff] at hv;obtain ⟨as,hg,rfl⟩:=hv;obtain ⟨vs,h1,h2,h3⟩:=part_of hR hL hX hg (srcs:=srcsOf X) (fun ho=>by simp [srcsOf,ho]) hm;exact fin_mv hd hN hdN (hrun a w) (R_box hR hdN (fbs hX _ _ _ _ _ _ _ _ _ _ hR hL hg) h2 h3 (cells_of h1) t) hcont
 unfold stpBox at h;split at h
 ·rename_i d t x hd ho;split at h;case h_2=>cases h
  case h_1 X hX=>
  split at h;case isFalse=>cases h
  case isTrue hc=>
  cases h;refine main hd hX hc.1 hc.2 fun a w => ?_
  unfold execOp;rw [ho];simp only;exact run_value (run_box t _ w)
 ·rename_i d t hd ho;split at h;case h_2=>cases h
  case h_1 i hi=>
  split at h;case h_2=>cases h
  case h_1 z hz=>
  split at h;case h_2=>cases h
  case h_1 X hX=>
  split at h;case isFalse=>cases h
  case isTrue hc=>
  cases h;refine main hd hX hc.1 hc.2 fun a w => ?_
  unfold execOp;rw [ho];simp only;exact run_value (run_alloc hi hz w)
 ·cases h
end Go.Fw
namespace Go.Fw
theorem RCL_scal {κ:Col} {w:World} {p:Pl} {get:Nat->Value}:∀{cs:List CT} {j:Nat} {as:List A},allD cs=true->RCL κ w cs p j get as ->
  as=((List.range cs.length).map fun k=>get (j+k)).map .v/\∀k,k<cs.length->sc (get (j+k))=true
 | [],_,[],_,_=>by simp
 | [],_,_::_,_,h=>by simp [RCL] at h
 | _::_,_,[],_,h=>by simp [RCL] at h
 | c::cs,j,a::as,hd,h=>by
  simp only [allD,List.all_cons,Bool.and_eq_true] at hd;cases c with
  | sl m e=>simp at hd
  | d=>
   cases a with
   | s xs=>simp [RCL,RC] at h
   | v y=>
    simp only [RCL,RC] at h;have ih:=RCL_scal (j:=j+1) (by simpa [allD] using hd.2) h.2;obtain ⟨⟨h1,h2⟩,_⟩:=h;subst h1;refine ⟨?_,fun k hk => ?_⟩
    ·rw [List.length_cons,List.range_succ_eq_map];simp only [List.map_cons,List.map_map,Nat.add_zero];congr 1;conv=>lhs;rw [ih.1]
     simp only [List.map_map];apply List.map_congr_left;intro k hk;simp only [Function.comp];rw [show j+1+k=j+(k+1) from by omega]
    ·cases k with
     | zero=>simpa using h2
     | succ k=>
      have:=ih.2 k (by simpa using hk);rw [show j+(k+1)=j+1+k from by omega];exact this
theorem sc_oneC {x:Value} (h:sc x=true):oneC x=true:=by cases x<;>simp_all [sc,oneC]
theorem RCL_flat {κ:Col} {w:World} {p:Pl} {get:Nat->Value} {cs:List CT} {j:Nat} {as:List A} (hl:CT.lives cs=true) (h:RCL κ w cs p j get as) (k:Nat) (hk:k<cs.length):oneC (get (j+k))=true:=by
 have ha:k<as.length:=by rw [RCL_length h];exact hk
 exact RC_flat (lives_nth hl (List.getElem?_eq_getElem hk)) (RCL_nth h (List.getElem?_eq_getElem hk) (List.getElem?_eq_getElem ha))
theorem all_flat {vs:List Value} {cs:List CT} (hl:vs.length=cs.length) (h:∀k,k<cs.length->oneC (vs.getD k undef)=true):vs.all oneC=true:=by
 rw [List.all_eq_true];intro x hx;obtain ⟨k,hk,rfl⟩:=List.getElem_of_mem hx;have:=h k (by omega);simpa [List.getD_eq_getElem?_getD,List.getElem?_eq_getElem hk] using this
def effStore (X:PX) (V:OX) (s:Nat->AV):Option (List AV):=
 match X.idx s,getA X.r s,V.get s with
 | some is,some ra,some as=>match lookL ra X.sk is with
  | some row=>some [.v (setL ra X.sk is (splice row X.off as)) []]
  | none=>none
 | _,_,_=>none
def stpStore (P:Program) (N:Nat) (g:Nat->TT) (o:Oper):Option Stp:=
 match o.dst,o.op with
 | none,.store t p x=>match plX g p,opX P g t 0 x,P.info? t with
  | some X,some V,some i=>match (g X.r).cts with
   | some cs=>match tagL true cs X.sk with
    | some e=>
     if X.r<N/\V.cs.length=i.size/\X.off+V.cs.length<=e.length/\CT.lives V.cs=true then
      if allD ((e.drop X.off).take V.cs.length)=true/\allD V.cs=true then
       if CT.mens [X.r] cs=false then some ⟨[(X.r,g X.r)],fun T=>T.killD X.r (if X.sk=[] then [] else [X.r]),X.r::(X.rd++V.rd),.det (effStore X V)⟩ else none
      else match X.sk,g X.r with
       | [],.box cr=>if X.r∉srcsOf V/\CT.mens (srcsOf V) cr=false/\CT.mens (srcsOf V) V.cs=false/\noPin V.cs=true then
         some ⟨(X.r,.box (splice cr X.off V.cs))::(srcsOf V).map (fun t=>(t,.dead)),fun T=>T.killS X.r (X.r::srcsOf V) (srcsOf V),X.r::(X.rd++V.rd),.det (effStore X V)⟩ else none
       | _,_=>none
     else none
    | none=>none
   | none=>none
  | _,_,_=>none
 | _,_=>none
theorem put_none (a:Act) (x:Value):a.put none x=a:=rfl
theorem stpStore_ok {P:Program} {N:Nat} {g:Nat->TT} {o:Oper} {S:Stp} (h:stpStore P N g o=some S):StpOk P N o g S:=by
 unfold stpStore at h;split at h;case h_2=>cases h
 case h_1 t p x hd ho=>
 split at h;case h_2=>cases h
 case h_1 X V i hX hV hi=>
 split at h;case h_2=>cases h
 case h_1 cs hcs=>
 split at h;case h_2=>cases h
 case h_1 e he=>
 split at h;case isFalse=>cases h
 case isTrue hc=>
 obtain ⟨hrN,hsz,hfit,hlv⟩:=hc;split at h
 ·rename_i hD;split at h;case isFalse=>cases h
  case isTrue hm=>
  cases h;intro ac κ0 κ w0 w tg sv s a v next Q hN hR hL hv hcont;simp only [Eff.rel,effStore] at hv;split at hv;case h_2=>cases hv
  case h_1 is ra as hidx hra has=>
  split at hv;case h_2=>cases hv
  case h_1 row hrow=>
  cases hv;obtain ⟨B,O,hp,hev⟩:=plX_ok hR hL hX hidx;obtain ⟨hcs',hsv⟩:=cts_ok hL hcs;obtain ⟨ra',hra'⟩:=hR.sv_root hcs';obtain ⟨is',hs'⟩:=getA_some hra;rw [hsv,hs'] at hra';cases hra';have hsr:sv X.r = .v ra []:=by rw [hsv,hs']
  obtain ⟨vs,h1,h2,h3,_⟩:=opX_ok hR hL hV has;obtain ⟨has',hsc⟩:=RCL_scal hD.2 h3;simp only [Nat.zero_add] at has' hsc;have hvs:(List.range V.cs.length).map (fun k=>vs.getD k undef)=vs:=by
   apply List.ext_getElem
   ·simp [h2]
   ·intro k hk hk';simp [List.getD_eq_getElem?_getD,List.getElem?_eq_getElem hk']
  rw [hvs] at has';have hall:vs.all sc=true:=by
   rw [List.all_eq_true];intro y hy;obtain ⟨k,hk,rfl⟩:=List.getElem_of_mem hy;have:=hsc k (by omega);simpa [List.getD_eq_getElem?_getD,List.getElem?_eq_getElem hk] using this
  have key:=R_stored hR hrN hcs' hsr hp he hrow (off:=X.off) (ys:=vs) (by omega) (by rw [h2];exact hD.1) hall hm rfl;have hne:g X.r≠.dead:=fun hg=>by rw [hg] at hcs;simp [TT.cts] at hcs
  obtain ⟨e1,e2⟩:=hL.at rfl hne;refine wp_skipv (w':=setsW w B (O+X.off) vs) ?_ (hcont undef _ κ (upd (fun t=>(tg t).killD X.r (if X.sk=[] then [] else [X.r])) X.r (tg X.r)) (upd sv X.r (.v (setL ra X.sk is (splice row X.off as)) [])) ?_ (fun u => ?_) (fun u => ?_))
  ·unfold execOp;rw [ho];simp only;have hcells:=cells_of h1;have:=run_storeAt (P:=P) (t:=t) (i:=i) (b:=B) (o:=O+X.off) (v:=a.eval x) (w:=w) hi (by rw [<-Array.length_toList,hcells,h2,hsz]) (by rw [hcells];rw [List.all_eq_true] at hall ⊢;exact fun y hy=>sc_oneC (hall y hy)) (by rw [<-hsz,<-h2];exact key.1);rw [hev,run_ok this,hcells];rfl
  ·rw [hd,put_none,has'];exact key.2
  ·show _=upds _ [(X.r,g X.r)] u;rw [upds_one,e1]
  ·show _=upds sv [(X.r,_)] u;rw [upds_one]
 ·split at h;case h_2=>cases h
  case h_1 cr hsk hbox=>
  split at h;case isFalse=>cases h
  case isTrue hc=>
  obtain ⟨hrs,hmr,hmv,hnp⟩:=hc;cases h;intro ac κ0 κ w0 w tg sv s a v next Q hN hR hL hv hcont;simp only [Eff.rel,effStore] at hv;split at hv;case h_2=>cases hv
  case h_1 is ra as hidx hra has=>
  split at hv;case h_2=>cases hv
  case h_1 row hrow=>
  cases hv;obtain ⟨B,O,hp,hev⟩:=plX_ok hR hL hX hidx;obtain ⟨hcs',hsv⟩:=cts_ok hL hcs;obtain ⟨ra',hra'⟩:=hR.sv_root hcs';obtain ⟨is',hs'⟩:=getA_some hra;rw [hsv,hs'] at hra';cases hra';have hsr:sv X.r = .v ra []:=by rw [hsv,hs']
  obtain ⟨vs,h1,h2,h3⟩:=part_of hR hL hV has (srcs:=srcsOf V) (fun ho=>by simp [srcsOf,ho]) hmv;obtain ⟨_,_,_,_,_,hfb,_⟩:=opX_ok hR hL hV has;obtain ⟨e1,e2⟩:=hL.at hbox (by simp);have hcr:cs=cr:=by rw [hbox] at hcs;simpa [TT.cts] using hcs.symm
  subst hcr;rw [hsk] at he hrow;simp only [tagL,Option.some.injEq] at he;subst he;have hisn:is=[]/\row=ra:=by
   cases is with
   | nil=>simp only [lookL,Option.some.injEq] at hrow;exact ⟨rfl,hrow.symm⟩
   | cons=>simp [lookL] at hrow
  obtain ⟨rfl,rfl⟩:=hisn;obtain ⟨B',hB',hwr,hR'⟩:=R_store0 hR hrN e1 hsr (srcs:=srcsOf V) (by unfold srcsOf;split<;>simp;exact fun he=>hfb he.symm) hrs h2 hfit hmr hnp;have haddr:=hp.addr;rw [hsk,e1,hB'] at haddr;simp only [paddr,rb,Option.map_some,wk,Option.some.injEq,Prod.mk.injEq] at haddr;obtain ⟨rfl,rfl⟩:=haddr;refine wp_skipv (w':=setsW w B' X.off vs) ?_ (hcont undef _ _ _ (upd sv X.r (.v (setL row X.sk [] (splice row X.off as)) [])) (by rw [hd,put_none,hsk];exact hR') (fun u => ?_) (fun u => ?_))
  ·unfold execOp;rw [ho];simp only;have hcells:=cells_of h1;have hlen:=h2.len;have hfl:=all_flat hlen fun k hk=>by
    have:=RCL_flat hlv h2.row k hk;simpa using this
   have:=run_storeAt (P:=P) (t:=t) (i:=i) (b:=B') (o:=X.off) (v:=a.eval x) (w:=w) hi (by rw [<-Array.length_toList,hcells,hlen,hsz]) (by rw [hcells];exact hfl) (by rw [<-hsz,<-hlen];exact hwr);rw [hev];simp only [Nat.zero_add];rw [run_ok this,hcells];rfl
  ·show _=upds _ ((X.r,TT.box (splice cs X.off V.cs))::(srcsOf V).map fun t=>(t,TT.dead)) u;simp only [upds,upd,upds_dead]
  ·show _=upds sv ((((X.r,TT.box (splice cs X.off V.cs))::(srcsOf V).map fun t=>(t,TT.dead)).map (·.1)).zip [_]) u;simp [upds,upd]
end Go.Fw
namespace Go.Fw
def lenX (g:Nat->TT):Operand->Option Nat
 | .tmp t=>match g t with
  | .val false [.sl (.own _) _]=>some t
  | .val false [.sl (.ro _) _]=>some t
  | .alias false [.sl (.ro _) _] _ _ _ _=>some t
  | _=>none
 | _=>none
theorem RC_len {κ:Col} {w:World} {m:Md} {e:List CT} {p:Pl} {x:Value} {xs:List (List A)} (hm:m≠.dead) (h:RC κ w (.sl m e) p x (.s xs)):∃ao cap,x = .slice ao xs.length cap:=by
 cases m with
 | own k=>simp only [RC] at h;obtain ⟨ao,cap,h,_⟩:=h;exact ⟨ao,cap,h⟩
 | ro S=>simp only [RC] at h;obtain ⟨ao,cap,h,_⟩:=h;exact ⟨ao,cap,h⟩
 | dead=>exact absurd rfl hm
theorem getS_some {t:Nat} {s:Nat->AV} {xs:List (List A)} {is:List Nat} (h:getS t s=some (xs,is)):s t = .v [.s xs] is:=by
 unfold getS at h;split at h
 ·rename_i xs' is' hs;cases h;exact hs
 ·cases h
theorem lenX_ok {ac:Nat->Nat->Value} {κ0 κ:Col} {w0 w:World} {N:Nat} {tg g:Nat->TT} {sv s:Nat->AV} {a:Act} (h:R ac κ0 w0 κ w N tg sv (gm a)) (hL:Le g s tg sv) {x:Operand} {t:Nat}
  (hx:lenX g x=some t) {xs:List (List A)} {is:List Nat} (hg:getS t s=some (xs,is)):∃ao cap,a.eval x = .slice ao xs.length cap:=by
 cases x with
 | tmp u=>
  have hs:=getS_some hg;have hev:a.eval (.tmp u)=gm a u:=rfl;have hvs:∀{x:Value} {vs:List Value},cellsOf false x=some vs->vs=[x]:=fun {x vs} h=>by
   cases x<;>simp [cellsOf] at h<;>exact h.symm
  rw [hev];simp only [lenX] at hx;split at hx
  ·rename_i k e hT;cases hx;obtain ⟨e1,e2⟩:=hL.at hT (by simp);have h1:=h.tr t;rw [e1] at h1;simp only [TR] at h1;obtain ⟨as,vs,g1,g2,g3,_,g5⟩:=h1;rw [e2,hs] at g1;cases g1;have:=hvs g2;subst this;simp only [RCL] at g5;exact RC_len (by simp) g5.1
  ·rename_i S e hT;cases hx;obtain ⟨e1,e2⟩:=hL.at hT (by simp);have h1:=h.tr t;rw [e1] at h1;simp only [TR] at h1;obtain ⟨as,vs,g1,g2,g3,_,g5⟩:=h1;rw [e2,hs] at g1;cases g1;have:=hvs g2;subst this;simp only [RCL] at g5;exact RC_len (by simp) g5.1
  ·rename_i S e r sk off S' hT;cases hx;obtain ⟨e1,e2⟩:=hL.at hT (by simp);have h1:=h.tr t;rw [e1] at h1;simp only [TR] at h1;obtain ⟨as,is',vs,_,_,_,g1,g2,g3,_,g5,_⟩:=h1;rw [e2,hs] at g1;cases g1;have:=hvs g2;subst this;simp only [RCL] at g5;exact RC_len (by simp) g5.1
  ·cases hx
 | _=>simp [lenX] at hx
def effLen (t:Nat) (s:Nat->AV):Option (List AV):=
 match getS t s with
 | some (xs,_)=>some [.v [.v (.int .i64 xs.length)] []]
 | none=>none
def stpLen (P:Program) (N:Nat) (g:Nat->TT) (o:Oper):Option Stp:=
 match o.dst,o.op with
 | some d,.call c=>match c.callee,c.args.toList,c.argTypes.toList with
  | .builtin .len,[x],[ty]=>match P.underlying ty,lenX g x with
   | some (.slice _),some t=>if d<N then some (Stp.set d (.val false [.d]) [t] (.det (effLen t))) else none
   | _,_=>none
  | _,_,_=>none
 | _,_=>none
theorem stpLen_ok {P:Program} {N:Nat} {g:Nat->TT} {o:Oper} {S:Stp} (h:stpLen P N g o=some S):StpOk P N o g S:=by
 unfold stpLen at h;split at h;case h_2=>cases h
 case h_1 d c hd ho=>
 obtain ⟨callee,⟨args⟩,⟨ats⟩⟩:=c;simp only at h;split at h;case h_2=>cases h
 case h_1 _ _ _ x ty=>
 split at h;case h_2=>cases h
 case h_1 et t hty hx=>
 split at h;case isFalse=>cases h
 case isTrue hdN=>
 cases h;intro ac κ0 κ w0 w tg sv s a v next Q hN hR hL hv hcont;simp only [Stp.set,Eff.rel,effLen] at hv;split at hv;case h_2=>cases hv
 case h_1 xs is hs=>
 cases hv;obtain ⟨ao,cap,hev⟩:=lenX_ok hR hL hx hs;obtain ⟨cs,hex⟩:=exec_builtin (ρ:=a.eval) ho;refine fin_set hd hN hdN (w':=w) (x:=.int .i64 xs.length) ?_ (R_data hR hdN rfl (Grows.refl w)) hcont;rw [hex];refine run_value ?_;unfold Builtin.len_;simp only [List.map_toArray,List.map_cons,List.map_nil,List.getElem?_toArray,List.getElem?_cons_zero,hev];rw [run_ok (run_underlying hty w)];rfl
mutual
def CT.beq:CT->CT->Bool
 | .d,.d=>true
 | .sl m e,.sl m' e'=>decide (m=m')&&CT.beqs e e'
 | _,_=>false
def CT.beqs:List CT->List CT->Bool
 | [],[]=>true
 | c::cs,c'::cs'=>c.beq c'&&CT.beqs cs cs'
 | _,_=>false
end
mutual
theorem CT.beq_eq:∀{c c':CT},c.beq c'=true->c=c'
 | .d,.d,_=>rfl
 | .sl m e,.sl m' e',h=>by
  simp only [CT.beq,Bool.and_eq_true,decide_eq_true_eq] at h;rw [h.1,CT.beqs_eq h.2]
 | .d,.sl _ _,h=>by simp [CT.beq] at h
 | .sl _ _,.d,h=>by simp [CT.beq] at h
theorem CT.beqs_eq:∀{cs cs':List CT},CT.beqs cs cs'=true->cs=cs'
 | [],[],_=>rfl
 | c::cs,c'::cs',h=>by
  simp only [CT.beqs,Bool.and_eq_true] at h;rw [CT.beq_eq h.1,CT.beqs_eq h.2]
 | [],_::_,h=>by simp [CT.beqs] at h
 | _::_,[],h=>by simp [CT.beqs] at h
end
mutual
def CT.le:CT->CT->Bool
 | .d,.d=>true
 | .sl m e,.sl m' e'=>match m,m' with
  | _,.dead=>true
  | .own p,.own p'=>(decide (p'=none) || decide (p=p'))&&CT.les e e'
  | .ro S,.ro S'=>S.all (S'.contains ·)&&CT.les e e'
  | _,_=>false
 | _,_=>false
def CT.les:List CT->List CT->Bool
 | [],[]=>true
 | c::cs,c'::cs'=>c.le c'&&CT.les cs cs'
 | _,_=>false
end
theorem les_length:∀{cs cs':List CT},CT.les cs cs'=true->cs.length=cs'.length
 | [],[],_=>rfl
 | c::cs,c'::cs',h=>by
  simp only [CT.les,Bool.and_eq_true] at h;simp [les_length h.2]
 | [],_::_,h=>by simp [CT.les] at h
 | _::_,[],h=>by simp [CT.les] at h
mutual
theorem RC_le {κ:Col} {w:World}:∀{c c':CT} {p:Pl} {x:Value} {a:A},c.le c'=true->RC κ w c p x a->RC κ w c' p x a
 | .d,.d,_,_,_,_,h=>h
 | .sl m e,.sl .dead e',_,_,.s _,_,h=>by simp [RC]
 | .sl m e,.sl .dead e',_,_,.v _,_,h=>by simp [RC]
 | .sl (.own k) e,.sl (.own k') e',p,x,.s xs,hl,h=>by
  simp only [CT.le,Bool.and_eq_true] at hl;simp only [RC] at h ⊢;obtain ⟨ao,cap,hx,hle,hc⟩:=h;refine ⟨ao,cap,hx,hle,?_⟩;rcases hc with h0|⟨b,o,h1,h2,h3,h4,h5⟩
  ·exact .inl h0
  ·exact .inr ⟨b,o,h1,h2,h3,by rw [<-les_length hl.2];exact h4,RCE_le hl.2 h5⟩
 | .sl (.ro S) e,.sl (.ro S') e',p,x,.s xs,hl,h=>by
  simp only [CT.le,Bool.and_eq_true,List.all_eq_true] at hl;simp only [RC] at h ⊢;obtain ⟨ao,cap,hx,hle,hc⟩:=h;refine ⟨ao,cap,hx,hle,?_⟩;rcases hc with h0|⟨b,o,h1,h2,h3,h4⟩
  ·exact .inl h0
  ·exact .inr ⟨b,o,h1,⟨h2.1,fun r q hb=>⟨by simpa using hl.1 r (h2.2 r q hb).1,(h2.2 r q hb).2⟩⟩,by rw [<-les_length hl.2];exact h3,RCE_le hl.2 h4⟩
 | .sl .dead e,.sl (.own _) e',_,_,_,hl,_=>by simp [CT.le] at hl
 | .sl .dead e,.sl (.ro _) e',_,_,_,hl,_=>by simp [CT.le] at hl
 | .sl (.own _) e,.sl (.ro _) e',_,_,_,hl,_=>by simp [CT.le] at hl
 | .sl (.ro _) e,.sl (.own _) e',_,_,_,hl,_=>by simp [CT.le] at hl
 | .sl (.own _) e,.sl (.own _) e',_,_,.v _,_,h=>by simp [RC] at h
 | .sl (.ro _) e,.sl (.ro _) e',_,_,.v _,_,h=>by simp [RC] at h
 | .d,.sl _ _,_,_,_,hl,_=>by simp [CT.le] at hl
 | .sl _ _,.d,_,_,_,hl,_=>by simp [CT.le] at hl
theorem RCL_le {κ:Col} {w:World}:∀{cs cs':List CT} {p:Pl} {j:Nat} {get:Nat->Value} {as:List A},CT.les cs cs'=true->RCL κ w cs p j get as->RCL κ w cs' p j get as
 | [],[],_,_,_,[],_,_=>by simp [RCL]
 | c::cs,c'::cs',p,j,get,a::as,hl,h=>by
  simp only [CT.les,Bool.and_eq_true] at hl;simp only [RCL] at h ⊢;exact ⟨RC_le hl.1 h.1,RCL_le hl.2 h.2⟩
 | [],_::_,_,_,_,_,hl,_=>by simp [CT.les] at hl
 | _::_,[],_,_,_,_,hl,_=>by simp [CT.les] at hl
 | [],[],_,_,_,_::_,_,h=>by simp [RCL] at h
 | _::_,_::_,_,_,_,[],_,h=>by simp [RCL] at h
theorem RCE_le {κ:Col} {w:World}:∀{e e':List CT} {p:Pl} {j:Nat} {get:Nat->Value} {xs:List (List A)},CT.les e e'=true->RCE κ w e p j get xs->RCE κ w e' p j get xs
 | _,_,_,_,_,[],_,_=>by simp [RCE]
 | e,e',p,j,get,x::xs,hl,h=>by
  simp only [RCE] at h ⊢;rw [<-les_length hl];exact ⟨RCL_le hl h.1,RCE_le hl h.2⟩
end
end Go.Fw
namespace Go.Fw
theorem RC_rows {κ:Col} {w:World} {m:Md} {e:List CT} {p:Pl} {x:Value} {ys:List (List A)} (hm:m≠.dead) (h:RC κ w (.sl m e) p x (.s ys)) :
  ∃ao cap,x = .slice ao ys.length cap/\(ys=[]\/∃b o,ao=some ⟨b,o,none⟩/\Rdb w b o (o+ys.length*e.length)/\RCE κ w e p 0 (fun j=>cellD w b (o+j)) ys):=by
 cases m with
 | dead=>exact absurd rfl hm
 | own k=>
  simp only [RC] at h;obtain ⟨ao,cap,h1,hle,hc⟩:=h;refine ⟨ao,cap,h1,?_⟩;rcases hc with ⟨rfl,rfl⟩|⟨b,o,rfl,_,_,hw,he⟩
  ·exact .inl (List.length_eq_zero_iff.1 (by omega))
  ·have:=Nat.mul_le_mul_right e.length hle;exact .inr ⟨b,o,rfl,fun q h1 h2=>(hw q h1 (by omega)).1,he⟩
 | ro S=>
  simp only [RC] at h;obtain ⟨ao,cap,h1,hle,hc⟩:=h;refine ⟨ao,cap,h1,?_⟩;rcases hc with h0|⟨b,o,rfl,_,hr,he⟩
  ·exact .inl h0
  ·exact .inr ⟨b,o,rfl,hr,he⟩
def rowX (g:Nat->TT):Operand->Option (Nat × List CT)
 | .tmp t=>match g t with
  | .val false [.sl (.own _) e]=>some (t,e)
  | .val false [.sl (.ro _) e]=>some (t,e)
  | .alias false [.sl (.ro _) e] _ _ _ _=>some (t,e)
  | _=>none
 | _=>none
theorem cellsOf_false {x:Value} {vs:List Value} (h:cellsOf false x=some vs):vs=[x]:=by
 cases x<;>simp [cellsOf] at h<;>exact h.symm
section
variable {ac:Nat->Nat->Value} {κ0 κ:Col} {w0 w:World} {N:Nat} {tg g:Nat->TT} {sv s:Nat->AV} {a:Act}
theorem rowX_ok (h:R ac κ0 w0 κ w N tg sv (gm a)) (hL:Le g s tg sv) {x:Operand} {t:Nat} {e:List CT} (hx:rowX g x=some (t,e)) {ys:List (List A)} {is:List Nat} (hg:getS t s=some (ys,is)) :
  t<N/\∃ao cap,a.eval x = .slice ao ys.length cap/\(ys=[]\/∃b o,ao=some ⟨b,o,none⟩/\Rdb w b o (o+ys.length*e.length)/\RCE κ w e (t,[0]) 0 (fun j=>cellD w b (o+j)) ys):=by
 cases x with
 | tmp u=>
  have hs:=getS_some hg;have hev:a.eval (.tmp u)=gm a u:=rfl;have hlt:tg u≠.dead->u<N:=fun ht=>by
   apply Nat.lt_of_not_le;intro hle;exact ht (h.out u hle)
  rw [hev];simp only [rowX] at hx;split at hx
  ·rename_i k e hT;cases hx;obtain ⟨e1,e2⟩:=hL.at hT (by simp);have h1:=h.tr t;rw [e1] at h1;simp only [TR] at h1;obtain ⟨as,vs,g1,g2,g3,_,g5⟩:=h1;rw [e2,hs] at g1;cases g1;have:=cellsOf_false g2;subst this;simp only [RCL] at g5;exact ⟨hlt (by simp [e1]),RC_rows (by simp) g5.1⟩
  ·rename_i S e hT;cases hx;obtain ⟨e1,e2⟩:=hL.at hT (by simp);have h1:=h.tr t;rw [e1] at h1;simp only [TR] at h1;obtain ⟨as,vs,g1,g2,g3,_,g5⟩:=h1;rw [e2,hs] at g1;cases g1;have:=cellsOf_false g2;subst this;simp only [RCL] at g5;exact ⟨hlt (by simp [e1]),RC_rows (by simp) g5.1⟩
  ·rename_i S e r sk off S' hT;cases hx;obtain ⟨e1,e2⟩:=hL.at hT (by simp);have h1:=h.tr t;rw [e1] at h1;simp only [TR] at h1;obtain ⟨as,is',vs,_,_,_,g1,g2,g3,_,g5,_⟩:=h1;rw [e2,hs] at g1;cases g1;have:=cellsOf_false g2;subst this;simp only [RCL] at g5;exact ⟨hlt (by simp [e1]),RC_rows (by simp) g5.1⟩
  ·cases hx
 | _=>simp [rowX] at hx
end
inductive HX where
 | nil
 | t (i:Nat) (e:List CT)
def headX (g:Nat->TT):Operand->Option HX
 | .const (.slice none 0 0)=>some .nil
 | .tmp t=>match g t with
  | .val false [.sl (.own _) e]=>some (.t t e)
  | _=>none
 | _=>none
def HX.tx:HX->Option Nat
 | .nil=>none
 | .t i _=>some i
def HX.e (e':List CT):HX->List CT
 | .nil=>e'
 | .t _ e=>e
def HX.get (s:Nat->AV):HX->Option (List (List A))
 | .nil=>some []
 | .t i _=>(getS i s).map (·.1)
theorem headX_ok {ac:Nat->Nat->Value} {κ0 κ:Col} {w0 w:World} {N:Nat} {tg g:Nat->TT} {sv s:Nat->AV} {a:Act} (h:R ac κ0 w0 κ w N tg sv (gm a)) (hL:Le g s tg sv) {x:Operand} {X:HX} {e':List CT} {srcs:List Nat}
  (hx:headX g x=some X) (hsr:∀t,X.tx=some t->t∈srcs) {xs:List (List A)} (hg:X.get s=some xs) :
  ∃ao cap,a.eval x = .slice ao xs.length cap/\((X.tx=none/\xs=[]/\ao=none/\cap=0)\/∃x pin,X.tx=some x/\x∈srcs/\RC κ w (.sl (.own pin) (X.e e')) (x,[0]) (.slice ao xs.length cap) (.s xs)):=by
 unfold headX at hx;split at hx
 ·cases hx;simp only [HX.get,Option.some.injEq] at hg;subst hg;exact ⟨none,0,rfl,.inl ⟨rfl,rfl,rfl,rfl⟩⟩
 ·rename_i t;split at hx
  ·rename_i pin e hT;cases hx;simp only [HX.get,Option.map_eq_some_iff] at hg;obtain ⟨⟨xs',is⟩,hg,rfl⟩:=hg;have hs:=getS_some hg;have hev:a.eval (.tmp t)=gm a t:=rfl;obtain ⟨e1,e2⟩:=hL.at hT (by simp);have h1:=h.tr t;rw [e1] at h1;simp only [TR] at h1;obtain ⟨as,vs,g1,g2,g3,_,g5⟩:=h1;rw [e2,hs] at g1;cases g1;have:=cellsOf_false g2;subst this;simp only [RCL] at g5;obtain ⟨ao,cap,hc⟩:=RC_len (by simp) g5.1;refine ⟨ao,cap,by rw [hev];simpa using hc,.inr ⟨t,pin,rfl,hsr t rfl,?_⟩⟩;have h2:=g5.1;simp only [List.getD_cons_zero] at h2 hc;rw [hc] at h2;exact h2
  ·cases hx
 ·cases hx
def effAppend (X:HX) (yt:Nat) (s:Nat->AV):Option (List AV):=
 match X.get s,getS yt s with
 | some xs,some (ys,_)=>if xs.length+ys.length<=4294967296 then some [.v [.s (xs++ys)] []] else none
 | _,_=>none
def HX.rd:HX->List Nat
 | .nil=>[]
 | .t i _=>[i]
structure EI where
 e:TypeId
 i:TypeInfo
def elemI (P:Program) (t:TypeId):Option EI:=
 match P.underlying t with
 | some (.slice e)=>match P.info? e with
  | some i=>match i.zero with
   | some z=>if z.cells.size=i.size/\i.bytes<=4096/\0<i.size then some ⟨e,i⟩ else none
   | none=>none
  | none=>none
 | _=>none
theorem elemI_ok {P:Program} {t:TypeId} {E:EI} (h:elemI P t=some E):∃z,ElemOk P t E.e E.i z:=by
 unfold elemI at h;split at h;case h_2=>cases h
 case h_1 e he=>
 split at h;case h_2=>cases h
 case h_1 i hi=>
 split at h;case h_2=>cases h
 case h_1 z hz=>
 split at h;case isFalse=>cases h
 case isTrue hc=>
 cases h;exact ⟨z,⟨he,hi,hz,hc.1,hc.2.1,hc.2.2⟩⟩
def apSrcs (X:HX) (yt:Nat) (e:List CT):List Nat:=X.tx.toList++(if CT.nowns e then [] else [yt])
mutual
def CT.jn:CT->CT->CT
 | .sl (.ro S) e,.sl (.ro S') e'=>.sl (.ro (S++S'.filter fun x=>!S.contains x)) (CT.jns e e')
 | .sl (.own p) e,.sl (.own p') e'=>.sl (.own (if p=p' then p else none)) (CT.jns e e')
 | c,_=>c
def CT.jns:List CT->List CT->List CT
 | c::cs,c'::cs'=>c.jn c'::CT.jns cs cs'
 | cs,_=>cs
end
def stpAppend (P:Program) (N:Nat) (g:Nat->TT) (o:Oper):Option Stp:=
 match o.dst,o.op with
 | some d,.call c=>match c.callee,c.args.toList,c.argTypes.toList with
  | .builtin .append,[x,y],[t,t2]=>match headX g x,rowX g y,elemI P t,P.underlying t2 with
   | some X,some (yt,e'),some E,some (.slice _)=>
    let e:=CT.jns (X.e e') e'
    let srcs:=apSrcs X yt e
    if CT.les (X.e e') e=true/\d<N/\e.length=E.i.size/\CT.les e' e=true/\CT.lives e=true/\CT.mens srcs e=false/\X.tx≠some yt/\FB∉srcs then
     some (Stp.mv d srcs (.val false [.sl (.own none) e]) (yt::X.rd) (.det (effAppend X yt)))
    else none
   | _,_,_,_=>none
  | _,_,_=>none
 | _,_=>none
theorem stpAppend_ok {P:Program} {N:Nat} {g:Nat->TT} {o:Oper} {S:Stp} (h:stpAppend P N g o=some S):StpOk P N o g S:=by
 unfold stpAppend at h;split at h;case h_2=>cases h
 case h_1 d c hd ho=>
 obtain ⟨callee,⟨args⟩,⟨ats⟩⟩:=c;simp only at h;split at h;case h_2=>cases h
 case h_1 _ _ _ x y t t2=>
 split at h;case h_2=>cases h
 case h_1 X yt e' E e2 hX hY hE ht2=>
 split at h;case isFalse=>cases h
 case isTrue hc=>
 obtain ⟨hle0,hdN,hen,hle,hlv,hm,hne,hsf⟩:=hc;generalize hje:CT.jns (X.e e') e'=ej at *
 cases h;intro ac κ0 κ w0 w tg sv s a v next Q hN hR hL hv hcont;simp only [Stp.mv,Eff.rel,effAppend] at hv;split at hv;case h_2=>cases hv
 case h_1 xs ys is hxs hys=>
 split at hv;case isFalse=>cases hv
 case isTrue hlim=>
 cases hv;obtain ⟨z,hEok⟩:=elemI_ok hE;obtain ⟨ao,cap,hev,hx0⟩:=headX_ok (e':=e') (srcs:=apSrcs X yt ej) hR hL hX (fun t ht=>by simp [apSrcs,ht]) hxs;have hx:(X.tx=none/\xs=[]/\ao=none/\cap=0)\/∃x pin,X.tx=some x/\x∈apSrcs X yt ej/\RC κ w (.sl (.own pin) ej) (x,[0]) (.slice ao xs.length cap) (.s xs):=by
  rcases hx0 with h0|⟨x,pin,h1,h2,h3⟩
  ·exact .inl h0
  ·exact .inr ⟨x,pin,h1,h2,RC_le (by simp [CT.le,hle0]) h3⟩
 obtain ⟨hytN,yo,ycap,hevy,hy⟩:=rowX_ok hR hL hY hys;have hy':ys=[]\/∃b o,yo=some ⟨b,o,none⟩/\Rdb w b o (o+ys.length*ej.length)/\RCE κ w ej (yt,[0]) 0 (fun j=>cellD w b (o+j)) ys:=by
  rcases hy with h0|⟨b,o',h1,h2,h3⟩
  ·exact .inl h0
  ·exact .inr ⟨b,o',h1,by rw [<-les_length hle];exact h2,RCE_le hle h3⟩
 obtain ⟨κ',w',vv,hrun,hR'⟩:=R_append hEok ht2 (ty:=o.type) hR hdN hsf hen hx hy' (by
  cases hno:CT.nowns ej with
  | true=>exact .inr rfl
  | false=>exact .inl (by simp [apSrcs,hno])) hne hm hlv hlim (ycap:=ycap)
 obtain ⟨cs,hex⟩:=exec_builtin (ρ:=a.eval) ho;refine fin_mv hd hN hdN (w':=w') (x:=vv) ?_ hR' hcont;rw [hex];refine run_value ?_;simp only [List.map_toArray,List.map_cons,List.map_nil,hev,hevy];exact hrun
end Go.Fw
namespace Go.Fw
def spl {α:Type}:List α->List (Nat × List α)->List α
 | l,[]=>l
 | l,(o,x)::ps=>spl (splice l o x) ps
structure QX where
 off:Nat
 X:OX
def getAs (s:Nat->AV):List QX->Option (List (List A))
 | []=>some []
 | q::qs=>match q.X.get s,getAs s qs with
  | some as,some r=>some (as::r)
  | _,_=>none
def offsOf (qs:List QX):List Nat:=qs.map (·.off)
def buildX (P:Program) (g:Nat->TT) (fs:Array Field) (n:Nat):List (Nat × Operand)->Option (List QX)
 | []=>some []
 | (k,x)::r=>match fs[k]?,(placesOf P fs)[k]?,buildX P g fs n r with
  | some fi,some (off,size),some qs=>match opX P g fi.type off x with
   | some X=>if X.cs.length=size/\off+size<=n then some (⟨off,X⟩::qs) else none
   | none=>none
  | _,_,_=>none
theorem once_find {ps:List Pt}:∀{p:Pt},p∈ps->(ps.map (·.t)).count p.t<=1->ps.find? (fun q=>q.t == p.t)=some p:=by
 induction ps with
 | nil=>intro p h;simp at h
 | cons q ps ih=>
  intro p hp hc;simp only [List.find?_cons];by_cases hq:q.t=p.t
  ·simp only [hq,beq_self_eq_true];rcases List.mem_cons.1 hp with rfl|hp'
   ·rfl
   ·exfalso;have h1:p.t∈ps.map (·.t):=List.mem_map_of_mem hp';have:=List.count_pos_iff.2 h1;simp only [List.map_cons,List.count_cons,hq,beq_self_eq_true,if_true] at hc;omega
  ·have hb:(q.t == p.t)=false:=by simpa using hq
   simp only [hb];rcases List.mem_cons.1 hp with rfl|hp'
   ·exact absurd rfl hq
   ·refine ih hp' ?_;simp only [List.map_cons,List.count_cons,hb] at hc;simpa using hc
section
variable {P:Program} {ac:Nat->Nat->Value} {κ0 κ:Col} {w0 w:World} {N:Nat} {tg g:Nat->TT} {sv s:Nat->AV} {a:Act}
structure Built (κ:Col) (w:World) (srcs:List Nat) (qs:List QX) (ass:List (List A)) (ps:List Pt):Prop where
 cs:∀C,splices Pt.cs C ps=spl C (qs.map fun q=>(q.off,q.X.cs))
 as:∀C,splices Pt.as C ps=spl C ((offsOf qs).zip ass)
 part:∀p,p∈ps->Part κ w srcs p.t p.cs p.vs p.as
 ts:ps.map (·.t)=qs.map (·.X.t)
theorem buildX_ok (h:R ac κ0 w0 κ w N tg sv (gm a)) (hL:Le g s tg sv) {fs:Array Field} {n:Nat} {srcs:List Nat}:∀{parts:List (Nat × Operand)} {qs:List QX} {ass:List (List A)},buildX P g fs n parts=some qs->getAs s qs=some ass ->
  (∀q,q∈qs->(q.X.own=true->q.X.t∈srcs)/\CT.mens srcs q.X.cs=false) ->
  ∃ps,Built κ w srcs qs ass ps/\fitP n ps/\(∀V:List Value,V.length=n->fillL (fun k=>(placesOf P fs)[k]?) V (parts.map fun p=>(p.1,(a.eval p.2).cells.toList))=some (splices Pt.vs V ps))
 | [],qs,ass,hb,hg,_=>by
  simp only [buildX,Option.some.injEq] at hb;subst hb;simp only [getAs,Option.some.injEq] at hg;subst hg;exact ⟨[],⟨fun C=>rfl,fun C=>rfl,by simp,rfl⟩,by simp [fitP],fun V _=>rfl⟩
 | (k,x)::r,qs,ass,hb,hg,hs=>by
  simp only [buildX] at hb;split at hb;case h_2=>cases hb
  case h_1 fi off size qs' hfi hpl hb'=>
  split at hb;case h_2=>cases hb
  case h_1 X hX=>
  split at hb;case isFalse=>cases hb
  case isTrue hc=>
  cases hb;simp only [getAs] at hg;split at hg;case h_2=>cases hg
  case h_1 as ass' has hg'=>
  cases hg;have hq:=hs ⟨off,X⟩ (by simp);obtain ⟨vs,h1,h2,_⟩:=part_of h hL hX has hq.1 hq.2;obtain ⟨ps,hB,hF,hfill⟩:=buildX_ok h hL hb' hg' fun q hq=>hs q (by simp [hq])
  have hl:=h2.len;refine ⟨⟨off,X.t,X.cs,vs,as⟩::ps,⟨fun C => ?_,fun C => ?_,fun p hp => ?_,?_⟩,fun p hp => ?_,fun V hV => ?_⟩
  ·simp only [splices,List.map_cons,spl];exact hB.cs _
  ·simp only [splices,offsOf,List.map_cons,List.zip_cons_cons,spl];exact hB.as _
  ·rcases List.mem_cons.1 hp with rfl|hp
   ·exact h2
   ·exact hB.part p hp
  ·simp [hB.ts]
  ·rcases List.mem_cons.1 hp with rfl|hp
   ·simp only;omega
   ·exact hF p hp
  ·simp only [List.map_cons,fillL,hpl,cells_of h1,splices];rw [if_pos ⟨by omega,by omega⟩];exact hfill _ (by rw [splice_length (by omega)];exact hV)
end
def qSrcs (qs:List QX):List Nat:=qs.flatMap fun q=>srcsOf q.X
def effBuild (ZA:List A) (qs:List QX) (s:Nat->AV):Option (List AV):=
 match getAs s qs with
 | some ass=>some [.v (spl ZA ((offsOf qs).zip ass)) []]
 | none=>none
def okQ (qs:List QX):Bool:=
 qs.all (fun q=>!CT.mens (qSrcs qs) q.X.cs)&&(qSrcs qs).all (fun t=>decide ((qs.map (·.X.t)).count t<=1)) && !(qSrcs qs).contains FB
def stpBuild (P:Program) (N:Nat) (g:Nat->TT) (o:Oper):Option Stp:=
 match o.dst,o.op with
 | some d,.build t parts=>match P.underlying t,P.info? t,ctys P fuel t with
  | some (.struct fs),some i,some Z=>match i.zero with
   | some z=>match zA Z z.cells.toList,buildX P g fs Z.length parts.toList with
    | some ZA,some qs=>
     let C:=spl Z (qs.map fun q=>(q.off,q.X.cs))
     if d<N/\fs.toList.all (fun f=>(P.info? f.type).isSome)=true/\okQ qs=true/\noPin C=true then
      some (Stp.mv d (qSrcs qs) (.val true C) (qs.flatMap (·.X.rd)) (.det (effBuild ZA qs)))
     else none
    | _,_=>none
   | none=>none
  | _,_,_=>none
 | _,_=>none
theorem stpBuild_ok {P:Program} {N:Nat} {g:Nat->TT} {o:Oper} {S:Stp} (h:stpBuild P N g o=some S):StpOk P N o g S:=by
 unfold stpBuild at h;split at h;case h_2=>cases h
 case h_1 d t parts hd ho=>
 split at h;case h_2=>cases h
 case h_1 fs i Z hfs hi hZ=>
 split at h;case h_2=>cases h
 case h_1 z hz=>
 split at h;case h_2=>cases h
 case h_1 ZA qs hZA hqs=>
 simp only at h;split at h;case isFalse=>cases h
 case isTrue hc=>
 obtain ⟨hdN,hinf,hok,hnp⟩:=hc;cases h;intro ac κ0 κ w0 w tg sv s a v next Q hN hR hL hv hcont;simp only [Stp.mv,Eff.rel,effBuild] at hv;split at hv;case h_2=>cases hv
 case h_1 ass hass=>
 cases hv;simp only [okQ,Bool.and_eq_true,List.all_eq_true,Bool.not_eq_true'] at hok;obtain ⟨⟨hm,ho1⟩,hfb⟩:=hok;obtain ⟨ps,hB,hF,hfill⟩:=buildX_ok (srcs:=qSrcs qs) hR hL hqs hass fun q hq=>⟨fun ho=>List.mem_flatMap.2 ⟨q,hq,by simp [srcsOf,ho]⟩,hm q hq⟩
 have hz':=zA_ZR hZA;have hlen:=ZR_len hz';have once:Once1 (qSrcs qs) ps:=fun p hp hs=>once_find hp (by rw [hB.ts];simpa using ho1 p.t hs)
 have hR':=R_build hR hdN (srcs:=qSrcs qs) (by simpa using hfb) hz' hB.part once hF (by rw [hB.cs];exact hnp);rw [hB.cs,hB.as] at hR';refine fin_mv hd hN hdN (w':=w) ?_ hR' hcont;unfold execOp;rw [ho];simp only;refine run_value ?_;have hf2:=hfill z.cells.toList hlen;refine run_build (P:=P) hfs hi hz hinf (l:=splices Pt.vs z.cells.toList ps) ?_;rw [<-hf2];congr 1;simp [Array.toList_map,List.map_map,Function.comp_def]
end Go.Fw
namespace Go.Fw
def posOf:List Nat->Nat->Nat->Option Nat
 | [],_,_=>none
 | u::us,t,i=>if u=t then some i else posOf us t (i+1)
theorem posOf_at {t:Nat} {post:List Nat}:∀{pre:List Nat} {i:Nat},(pre++t::post).count t<=1->posOf (pre++t::post) t i=some (i+pre.length)
 | [],i,_=>by simp [posOf]
 | u::pre,i,h=>by
  have hne:u≠t:=by
   intro he;subst he;simp only [List.cons_append,List.count_cons,List.count_append,beq_self_eq_true,if_true] at h;omega
  simp only [List.cons_append,posOf,if_neg hne]
  rw [posOf_at (by simp only [List.cons_append,List.count_cons] at h;have:(u == t)=false:=by simpa using hne
                   simp only [this] at h;simpa using h)]
  simp only [List.length_cons];congr 1;omega
def slF (T:List Nat) (size:Nat) (t k:Nat):Option (List Nat):=(posOf T t 0).map fun i=>[0,i*size+k]
section
variable {κ:Col} {w w':World} {srcs T:List Nat} {d size:Nat} {nb:Option (Nat × Pl)} {e:List CT}
theorem sli_rows (hw:Grows w w') (hnb:∀b p,nb=some (b,p)->w.heap.size<=b) (hc:∀b,w.heap.size<=b->κ b=none) (hT:∀t,t∈srcs->T.count t<=1) (he:e.length=size) :
  ∀{ps:List Pt} {pre:List Nat} {V0:List Value},(∀p,p∈ps->Part κ w srcs p.t p.cs p.vs p.as/\CT.les p.cs e=true)->T=pre++ps.map (·.t)->V0.length=pre.length*size ->
   RCE (recol κ (mvF srcs d (slF T size)) nb) w' e (d,[0]) (pre.length*size) (fun k=>(V0++(ps.map (·.vs)).flatten).getD k undef) (ps.map (·.as))
 | [],_,_,_,_,_=>by simp [RCE]
 | p::ps,pre,V0,hp,hpre,hV=>by
  obtain ⟨h1,h2⟩:=hp p (by simp);have hl:p.cs.length=size:=by rw [<-he];exact les_length h2
  simp only [List.map_cons,RCE];constructor
  ·refine RCL_le h2 (part_place hw hnb hc h1 (fun k hk ht => ?_) fun i hi => ?_)
   ·unfold slF;rw [hpre,List.map_cons,posOf_at (by have:=hT p.t ht;rw [hpre] at this;simpa using this)];simp
   ·have:=h1.len;simp only [List.flatten_cons,List.getD_eq_getElem?_getD];rw [<-hV,List.getElem?_append_right (by omega),List.getElem?_append_left (by omega)];congr 2;omega
  ·have:=sli_rows (ps:=ps) (pre:=pre++[p.t]) (V0:=V0++p.vs) hw hnb hc hT he (fun q hq=>hp q (by simp [hq])) (by rw [hpre];simp) (by
    rw [List.length_append,hV,h1.len,hl,List.length_append];simp [Nat.add_mul])
   simp only [List.length_append,List.length_cons,List.length_nil,Nat.zero_add,Nat.add_mul,Nat.one_mul] at this;rw [he];simp only [List.flatten_cons,List.append_assoc] at this ⊢;exact this
end
def sliX (P:Program) (g:Nat->TT) (et:TypeId) (size:Nat):Nat->List (Nat × Operand)->Option (List QX)
 | _,[]=>some []
 | k,(j,x)::r=>if j=k then match opX P g et k x,sliX P g et size (k+1) r with
   | some X,some qs=>if X.cs.length=size then some (⟨k,X⟩::qs) else none
   | _,_=>none
  else none
theorem fill_full {size:Nat}:∀{vss:List (List Value)} {k:Nat} {pre Z:List Value},(∀v,v∈vss->v.length=size)->pre.length=k*size->Z.length=vss.length*size ->
  fillL (fun k=>some (k*size,size)) (pre++Z) ((vss.zipIdx k).map fun p=>(p.2,p.1))=some (pre++vss.flatten)
 | [],k,pre,Z,_,_,hZ=>by
  have:Z=[]:=List.length_eq_zero_iff.1 (by simpa using hZ)
  subst this;simp [fillL]
 | v::vss,k,pre,Z,hv,hp,hZ=>by
  have h1:=hv v (by simp)
  simp only [List.length_cons,Nat.add_mul,Nat.one_mul] at hZ
  simp only [List.zipIdx_cons,List.map_cons,fillL]
  rw [if_pos ⟨h1,by rw [List.length_append];omega⟩]
  have hs:splice (pre++Z) (k*size) v=(pre++v)++Z.drop size:=by
   unfold splice;rw [<-hp,List.take_left,List.drop_append,h1];have:List.drop (pre.length+size) pre=[]:=List.drop_eq_nil_of_le (by omega);rw [this];simp
  rw [hs,fill_full (fun u hu=>hv u (by simp [hu])) (by rw [List.length_append,hp,h1];simp [Nat.add_mul]) (by rw [List.length_drop];omega)]
  simp
section
variable {P:Program} {ac:Nat->Nat->Value} {κ0 κ:Col} {w0 w:World} {N:Nat} {tg g:Nat->TT} {sv s:Nat->AV} {a:Act}
theorem sliX_ok (h:R ac κ0 w0 κ w N tg sv (gm a)) (hL:Le g s tg sv) {et:TypeId} {size:Nat} {srcs:List Nat}:∀{k:Nat} {parts:List (Nat × Operand)} {qs:List QX} {ass:List (List A)},sliX P g et size k parts=some qs->getAs s qs=some ass ->
  (∀q,q∈qs->(q.X.own=true->q.X.t∈srcs)/\CT.mens srcs q.X.cs=false) ->
  ∃ps:List Pt,(∀p,p∈ps->Part κ w srcs p.t p.cs p.vs p.as)/\ps.map (·.t)=qs.map (·.X.t)/\ps.map (·.cs)=qs.map (·.X.cs)/\ps.map (·.as)=ass/\(∀p,p∈ps->p.vs.length=size) /\
   parts.map (fun p=>(p.1,(a.eval p.2).cells.toList))=((ps.map (·.vs)).zipIdx k).map fun p=>(p.2,p.1)
 | k,[],qs,ass,hb,hg,_=>by
  simp only [sliX,Option.some.injEq] at hb;subst hb;simp only [getAs,Option.some.injEq] at hg;subst hg;exact ⟨[],by simp,rfl,rfl,rfl,by simp,rfl⟩
 | k,(j,x)::r,qs,ass,hb,hg,hs=>by
  simp only [sliX] at hb;split at hb;case isFalse=>cases hb
  case isTrue hj=>
  subst hj;split at hb;case h_2=>cases hb
  case h_1 X qs' hX hb'=>
  split at hb;case isFalse=>cases hb
  case isTrue hc=>
  cases hb;simp only [getAs] at hg;split at hg;case h_2=>cases hg
  case h_1 as ass' has hg'=>
  cases hg;have hq:=hs ⟨j,X⟩ (by simp);obtain ⟨vs,h1,h2,_⟩:=part_of h hL hX has hq.1 hq.2;obtain ⟨ps,g1,g2,g3,g4,g5,g6⟩:=sliX_ok h hL hb' hg' fun q hq=>hs q (by simp [hq])
  refine ⟨⟨j,X.t,X.cs,vs,as⟩::ps,fun p hp => ?_,by simp [g2],by simp [g3],by simp [g4],fun p hp => ?_,by simp [g6,cells_of h1,List.zipIdx_cons]⟩
  ·rcases List.mem_cons.1 hp with rfl|hp
   ·exact h2
   ·exact g1 p hp
  ·rcases List.mem_cons.1 hp with rfl|hp
   ·simp only;rw [h2.len,hc]
   ·exact g5 p hp
end
def effSli (qs:List QX) (s:Nat->AV):Option (List AV):=
 match getAs s qs with
 | some ass=>some [.v [.s ass] []]
 | none=>none
def sliE (P:Program) (et:TypeId):List QX->Option (List CT)
 | []=>ctys P fuel et
 | q::qs=>some (qs.foldl (fun e q=>CT.jns e q.X.cs) q.X.cs)
def stpSli (P:Program) (N:Nat) (g:Nat->TT) (o:Oper):Option Stp:=
 match o.dst,o.op with
 | some d,.buildSlice t n parts=>match elemI P t with
  | some E=>match sliX P g E.e E.i.size 0 parts.toList with
   | some qs=>match sliE P E.e qs with
    | some e=>
     if d<N/\parts.toList.length=n/\n*E.i.size<=16777216/\okQ qs=true/\qs.all (fun q=>CT.les q.X.cs e)=true/\e.length=E.i.size then
      some (Stp.mv d (qSrcs qs) (.val false [.sl (.own none) e]) (qs.flatMap (·.X.rd)) (.det (effSli qs)))
     else none
    | none=>none
   | none=>none
  | none=>none
 | _,_=>none
theorem stpSli_ok {P : Program} {N : Nat} {g : Nat → TT} {o : Oper} {S : Stp} (h : stpSli P N g o = some S) : StpOk P N o g S := by
  unfold stpSli at h;split at h;case h_2 => cases h
  case h_1 d t n parts hd ho =>
  split at h;case h_2 => cases h
  case h_1 E hE =>
  split at h;case h_2 => cases h
  case h_1 qs hqs =>
  split at h;case h_2 => cases h
  case h_1 e he =>
  split at h;case isFalse => cases h
  case isTrue hc =>
  obtain ⟨hdN, hn, hsz, hok, hle, hes⟩ := hc;cases h;intro ac κ0 κ w0 w tg sv s a v next Q hN hR hL hv hcont;simp only [Stp.mv, Eff.rel, effSli] at hv;split at hv;case h_2 => cases hv
  case h_1 ass hass =>
  cases hv;obtain ⟨z, hEok⟩ := elemI_ok hE;simp only [okQ, Bool.and_eq_true, List.all_eq_true, Bool.not_eq_true'] at hok;obtain ⟨⟨hm, ho1⟩, hfb⟩ := hok;obtain ⟨ps, g1, g2, g3, g4, g5, g6⟩ := sliX_ok (srcs := qSrcs qs) hR hL hqs hass fun q hq => ⟨fun ho => List.mem_flatMap.2 ⟨q, hq, by simp [srcsOf, ho]⟩, hm q hq⟩
  have hlen : ps.length = n := by
    have := congrArg List.length g6;simp only [List.length_map, List.length_zipIdx] at this;omega
  have hls : ∀ p, p ∈ ps → CT.les p.cs e = true := by
    intro p hp;have : p.cs ∈ qs.map (·.X.cs) := by rw [← g3]; exact List.mem_map_of_mem hp
    obtain ⟨q, hq, hqe⟩ := List.mem_map.1 this;rw [← hqe];exact (List.all_eq_true.1 hle) q hq
  have hal : ass.length = n := by rw [← g4]; simpa using hlen
  have hflat : ((ps.map (·.vs)).flatten).length = n * E.i.size := by
    have : ∀ (ps : List Pt), (∀ p, p ∈ ps → p.vs.length = E.i.size) → ((ps.map (·.vs)).flatten).length = ps.length * E.i.size := by
      intro ps;induction ps with
      | nil => intro _; simp
      | cons p ps ih =>
        intro h;simp only [List.map_cons, List.flatten_cons, List.length_append, List.length_cons, Nat.add_mul, Nat.one_mul];rw [ih fun q hq => h q (by simp [hq]), h p (by simp)]; omega
    rw [this ps g5, hlen]
  have hfb' : FB ∉ qSrcs qs := by simpa using hfb
  have hR' := R_slice1 hR hdN (srcs := qSrcs qs) hfb' (f := slF (qs.map (·.X.t)) E.i.size) (e := e) (xs := ass) (cells := ((ps.map (·.vs)).flatten).toArray) (ty := E.e) (cap := n) (by omega) (by
      rw [hes]; simp only [List.size_toArray, hflat]; omega) (fun κ' w' hκ hw => by
    have := sli_rows (w' := w') (d := d) (nb := some (w.heap.size, (d, [0]))) (T := qs.map (·.X.t)) (κ := κ) (srcs := qSrcs qs) (size := E.i.size) (e := e) (by rw [hw]; exact pushW_grows w _ _) (fun b p hb => by cases hb; omega) hR.col
      (fun t ht => by simpa using ho1 t ht) hes (ps := ps) (pre := []) (V0 := []) (fun p hp => ⟨g1 p hp, hls p hp⟩) (by simp [g2]) (by simp)
    rw [g4] at this
    rw [hκ]
    simpa using this)
  rw [hal] at hR';refine fin_mv hd hN hdN (w' := pushW w ((ps.map (·.vs)).flatten).toArray E.e) ?_ hR' hcont;unfold execOp; rw [ho];simp only;refine run_value ?_;refine run_buildSlice hEok hsz ?_;have hff := fill_full (size := E.i.size) (vss := ps.map (·.vs)) (k := 0) (pre := []) (Z := (List.replicate n z.cells.toList).flatten) (fun v hv => by
    obtain ⟨p, hp, rfl⟩ := List.mem_map.1 hv; exact g5 p hp) (by simp) (by
      have := hEok.zsize
      simp [hlen, this])
  rw [← g6] at hff;simp only [List.nil_append] at hff;rw [← hff];congr 1;simp [Array.toList_map, List.map_map, Function.comp_def]
end Go.Fw
namespace Go.Fw
section
variable {ac:Nat->Nat->Value} {κ0 κ:Col} {w0 w:World} {N:Nat} {tg tg2:Nat->TT} {sv:Nat->AV} {tm:Nat->Value}
theorem R_reptr (h:R ac κ0 w0 κ w N tg sv tm) {r b:Nat} {cs:List CT} (hr:tg r = .box cs) (hb:tm r = .pointer (some ⟨b,0,none⟩))
  (h2:∀t,tg2 t=tg t\/(tg t = .dead/\t<N/\∃off S,tg2 t = .ptr r [] off S/\sv t = .p []/\tm t = .pointer (some ⟨b,0+off,none⟩))):R ac κ0 w0 κ w N tg2 sv tm:=by
 have hrg:∀r x,rg w (tg2 r) x=rg w (tg r) x/\rb (tg2 r) x=rb (tg r) x:=by
  intro r' x;rcases h2 r' with h2|⟨h3,_,off,S,h4,_⟩
  ·rw [h2];exact ⟨rfl,rfl⟩
  ·rw [h3,h4];exact ⟨by funext k;simp [rg],by simp [rb]⟩
 have hk:=h.tr r;rw [hr] at hk;simp only [TR] at hk;obtain ⟨as,b',_,k2,k3,k4,_⟩:=hk;rw [hb] at k2;cases k2;refine ⟨fun t => ?_,fun t ht => ?_,h.col,h.fr,h.fb,h.nle⟩
 ·rcases h2 t with h2'|⟨_,_,off,S,h4,h5,h6⟩
  ·have:=h.tr t;rw [h2'];cases hT:tg t with
   | alias ag cs r sk off S=>rw [hT] at this;simp only [TR,(hrg r (tm r)).2,show rg w (tg2 r) (tm r)=rg w (tg r) (tm r) from (hrg r (tm r)).1] at this ⊢;exact this
   | ptr r sk off S=>rw [hT] at this;simp only [TR,(hrg r (tm r)).2,show rg w (tg2 r) (tm r)=rg w (tg r) (tm r) from (hrg r (tm r)).1] at this ⊢;exact this
   | dead=>simp [TR]
   | val=>rw [hT] at this;simpa only [TR] using this
   | box=>rw [hT] at this;simpa only [TR] using this
   | tup=>rw [hT] at this;simpa only [TR] using this
  ·rw [h4];simp only [TR,(hrg r (tm r)).2,show rg w (tg2 r) (tm r)=rg w (tg r) (tm r) from (hrg r (tm r)).1];refine ⟨[],b,0,h5,by simp [paddr,hr,hb,rb,wk],by simp [PO],fun b' hb' => ?_,h6⟩;rw [hr,hb] at hb';simp [rb] at hb';subst hb';exact k4
 ·rcases h2 t with h2'|⟨_,h3,_⟩
  ·rw [h2'];exact h.out t ht
  ·omega
end
def stpTake (N:Nat) (g:Nat->TT) (t:Nat):Option Stp:=
 match g t with
 | .alias ag cs0 r [] off _=>match g r with
  | .val gg cs=>if t<N/\r<N/\t≠r/\CT.mens [r] cs=false/\off+cs0.length<=cs.length then
    some ⟨[(t,.val ag ((cs.drop off).take cs0.length)),(r,.val gg (deadR off cs0.length cs))],fun T=>T.killS r [t,r] [r],[t],.det (effCopy t)⟩ else none
  | .box cs=>if t<N/\r<N/\t≠r/\CT.mens [r] cs=false/\off+cs0.length<=cs.length then
    some ⟨[(t,.val ag ((cs.drop off).take cs0.length)),(r,.box (deadR off cs0.length cs))],fun T=>T.killS r [t,r] [r],[t],.det (effCopy t)⟩ else none
  | _=>none
 | _=>none
def PsOk (P:Program) (N:Nat) (g:Nat->TT) (S:Stp):Prop:=
 ∀(ac:Nat->Nat->Value) (κ0 κ:Col) (w0 w:World) (tg:Nat->TT) (sv s:Nat->AV) (tm:Nat->Value) (v:List AV),R ac κ0 w0 κ w N tg sv tm->Le g s tg sv->S.eff.rel P s v ->
  ∃κ' tg' sv',R ac κ0 w0 κ' w N tg' sv' tm/\(∀t,tg' t=upds (fun t=>S.kl (tg t)) S.up t)/\(∀t,sv' t=upds sv ((S.up.map (·.1)).zip v) t)
theorem killS_ne {r:Nat} {mods M:List Nat} {T:TT} (h:T.killS r mods M≠T.kill mods M):∃off S,T = .ptr r [] off S/\T.killS r mods M=T:=by
 unfold TT.killS at h ⊢;split at h
 ·rename_i r' off S;split at h
  ·rename_i hr;subst hr;exact ⟨off,S,rfl,by simp⟩
  ·exact absurd rfl h
 ·exact absurd rfl h
theorem stpTake_ok {P:Program} {N:Nat} {g:Nat->TT} {t:Nat} {S:Stp} (h:stpTake N g t=some S):PsOk P N g S:=by
 unfold stpTake at h;split at h;case h_2=>cases h
 case h_1 ag cs0 r off S0 hT=>
 have main:∀{cs:List CT} {tag':TT},(g r).cts=some cs->t<N->r<N->t≠r->CT.mens [r] cs=false->off+cs0.length<=cs.length ->
   (∀tg:Nat->TT,tg r=g r->tag'=match tg r with | .val g _=>.val g (deadR off cs0.length cs) | .box _=>.box (deadR off cs0.length cs)|x=>x) ->
   PsOk P N g ⟨[(t,.val ag ((cs.drop off).take cs0.length)),(r,tag')],fun T=>T.killS r [t,r] [r],[t],.det (effCopy t)⟩:=by
  intro cs tag' hcs htN hrN htr hm hn htag ac κ0 κ w0 w tg sv s tm v hR hL hv;simp only [Eff.rel,effCopy,Option.map_eq_some_iff] at hv;obtain ⟨as,hg,rfl⟩:=hv;obtain ⟨is,hs⟩:=getA_some hg;obtain ⟨e1,e2⟩:=hL.at hT (by simp);obtain ⟨hcs',_⟩:=cts_ok hL hcs;have hgr:tg r=g r:=by
   have hne:g r≠.dead:=fun he=>by rw [he] at hcs;simp [TT.cts] at hcs
   exact (hL.at rfl hne).1
  have hR':=R_take hR htN hrN htr e1 hcs' hm hn (by rw [e2,hs]) (htag tg hgr);refine ⟨recol κ (rangeF r off cs0.length t) none,upds (fun u=>(tg u).killS r [t,r] [r]) [(t,.val ag ((cs.drop off).take cs0.length)),(r,tag')],upds sv [(t,.v as [])],?_,fun u=>rfl,fun u=>by simp⟩;have hsv:upds sv [(t,.v as [])]=upd sv t (.v as []):=upds_one _ _ _;rw [hsv]
  -- pointers to the box itself stay
  by_cases hbox:∃cb,tg r = .box cb
  ·obtain ⟨cb,hcb⟩:=hbox;have hk:=hR.tr r;rw [hcb] at hk;simp only [TR] at hk;obtain ⟨as2,b,_,k2,_⟩:=hk;have htag':=htag tg hgr;rw [hcb] at htag';simp only at htag';refine R_reptr hR' (r:=r) (b:=b) (cs:=deadR off cs0.length cs) (by rw [upd_ne _ _ _ (Ne.symm htr),upd_self];exact htag') k2 fun u => ?_
   by_cases hut:u=t
   ·left;subst hut;simp [upds,upd]
   ·by_cases hur:u=r
    ·left;subst hur;simp [upds,upd,hut]
    ·simp only [upds,if_neg hut,if_neg hur,upd];by_cases hsame:(tg u).killS r [t,r] [r]=(tg u).kill [t,r] [r]
     ·exact .inl hsame
     ·right;obtain ⟨off',S',hp,hk'⟩:=killS_ne hsame;have hu:=hR.tr u;rw [hp] at hu;simp only [TR] at hu;obtain ⟨is',B,O,u1,u2,_,_,u5⟩:=hu;rw [hcb] at u2;simp only [paddr,rb,k2,Option.map_some] at u2;have his:is'=[]/\B=b/\O=0:=by
       cases is' with
       | nil=>simp only [wk,Option.some.injEq,Prod.mk.injEq] at u2;exact ⟨rfl,u2.1.symm,u2.2.symm⟩
       | cons=>simp [wk] at u2
      obtain ⟨rfl,rfl,rfl⟩:=his;refine ⟨by rw [hp];simp [TT.kill],?_,off',S',by rw [hk',hp],by simpa using u1,u5⟩;apply Nat.lt_of_not_le;intro hle;have:=hR.out u hle;rw [hp] at this;cases this
  ·have:upds (fun u=>(tg u).killS r [t,r] [r]) [(t,.val ag ((cs.drop off).take cs0.length)),(r,tag')]=upd (upd (fun u=>(tg u).kill [t,r] [r]) r tag') t (.val ag ((cs.drop off).take cs0.length)):=by
    funext u;simp only [upds,upd];split
    ·rfl
    ·split
     ·rfl
     ·rename_i hut hur;by_cases hsame:(tg u).killS r [t,r] [r]=(tg u).kill [t,r] [r]
      ·exact hsame
      ·exfalso;obtain ⟨off',S',hp,_⟩:=killS_ne hsame;have hu:=hR.tr u;rw [hp] at hu;simp only [TR] at hu;obtain ⟨is',B,O,u1,u2,_⟩:=hu;have:rb (tg r) (tm r)=none:=by
        cases hTr:tg r with
        | box cb=>exact absurd ⟨cb,hTr⟩ hbox
        | _=>simp [rb]
       rw [this] at u2;cases is' with
       | nil=>simp [paddr,wk] at u2
       | cons=>simp [paddr,wk] at u2
   rw [this];exact hR'
 split at h
 ·rename_i gg cs hr;split at h;case isFalse=>cases h
  case isTrue hc=>
  cases h;exact main (by rw [hr];rfl) hc.1 hc.2.1 hc.2.2.1 hc.2.2.2.1 hc.2.2.2.2 fun tg he=>by rw [he,hr]
 ·rename_i cs hr;split at h;case isFalse=>cases h
  case isTrue hc=>
  cases h;exact main (by rw [hr];rfl) hc.1 hc.2.1 hc.2.2.1 hc.2.2.2.1 hc.2.2.2.2 fun tg he=>by rw [he,hr]
 ·cases h
def effMake (X:DX) (z:List A) (s:Nat->AV):Option (List AV):=
 match X.get s with
 | some v=>match toN v with
  | some n=>if n<=4294967296 then some [.v [.s (List.replicate n z)] []] else none
  | none=>none
 | none=>none
def stpMake (P:Program) (N:Nat) (g:Nat->TT) (o:Oper):Option Stp:=
 match o.dst,o.op with
 | some d,.makeSlice t (.tmp l) (.tmp c)=>match elemI P t,dataX g (.tmp l) with
  | some E,some X=>match ctys P fuel E.e,E.i.zero with
   | some e,some z=>match zA e z.cells.toList with
    | some za=>if d<N/\l=c/\e.length=E.i.size then some (Stp.mv d [] (.val false [.sl (.own none) e]) X.rd (.det (effMake X za))) else none
    | none=>none
   | _,_=>none
  | _,_=>none
 | _,_=>none
theorem RCE_repl {κ:Col} {w:World} {p:Pl} {e:List CT} {z:List Value} {za:List A} (hz:ZR e z za):∀{n j:Nat} {V0:List Value},V0.length=j ->
  RCE κ w e p j (fun k=>(V0++(List.replicate n z).flatten).getD k undef) (List.replicate n za)
 | 0,_,_,_=>by simp [RCE]
 | n+1,j,V0,hV=>by
  have hl:=ZR_len hz;simp only [List.replicate_succ,RCE];constructor
  ·refine ZR_RCL hz fun i hi => ?_
   simp only [List.flatten_cons,List.getD_eq_getElem?_getD];rw [<-hV,List.getElem?_append_right (by omega),List.getElem?_append_left (by omega)];congr 2;omega
  ·have:=RCE_repl (κ:=κ) (w:=w) (p:=p) hz (n:=n) (j:=j+e.length) (V0:=V0++z) (by rw [List.length_append,hV,hl]);simp only [List.flatten_cons,List.append_assoc] at this ⊢;exact this
theorem stpMake_ok {P : Program} {N : Nat} {g : Nat → TT} {o : Oper} {S : Stp} (h : stpMake P N g o = some S) : StpOk P N o g S := by
  unfold stpMake at h;split at h;case h_2 => cases h
  case h_1 d t l c hd ho =>
  split at h;case h_2 => cases h
  case h_1 E X hE hX =>
  split at h;case h_2 => cases h
  case h_1 e z he hz =>
  split at h;case h_2 => cases h
  case h_1 za hza =>
  split at h;case isFalse => cases h
  case isTrue hc =>
  obtain ⟨hdN, rfl, hes⟩ := hc;cases h;intro ac κ0 κ w0 w tg sv s a v next Q hN hR hL hv hcont;simp only [Stp.mv, Eff.rel, effMake] at hv;split at hv;case h_2 => cases hv
  case h_1 vv hvv =>
  split at hv;case h_2 => cases hv
  case h_1 n hn =>
  split at hv;case isFalse => cases hv
  case isTrue hlim =>
  cases hv;obtain ⟨k, m, rfl, hm0, rfl⟩ := toN_some hn;obtain ⟨e1, _⟩ := dataX_ok hR hL hX hvv;obtain ⟨z', hEok⟩ := elemI_ok hE;have hzz : z' = z := by have := hEok.zero; rw [hz] at this; exact (Option.some.inj this).symm
  subst hzz;have hzr := zA_ZR hza;have hfl : ((List.replicate m.toNat z'.cells.toList).flatten).length = m.toNat * E.i.size := by
    have := hEok.zsize;simp [this]
  have hR' := R_slice1 hR hdN (srcs := []) (by simp) (f := fun _ _ => none) (e := e) (xs := List.replicate m.toNat za) (cells := ((List.replicate m.toNat z'.cells.toList).flatten).toArray) (ty := E.e) (cap := m.toNat) (by simp) (by
      rw [hes]; simp only [List.size_toArray, hfl]; omega) (fun κ' w' hκ hw => by
    have := RCE_repl (κ := κ') (w := w') (p := (d, [0])) hzr (n := m.toNat) (j := 0) (V0 := []) rfl
    simpa using this)
  simp only [List.length_replicate] at hR';refine fin_mv hd hN hdN (w' := pushW w ((List.replicate m.toNat z'.cells.toList).flatten).toArray E.e) ?_ hR' hcont;unfold execOp; rw [ho];simp only;refine run_value ?_;have := run_makeSlice (P := P) (t := t) (n := m.toNat) (k := k) (w := w) hEok hlim;rw [show ((m.toNat : Nat) : Int) = m from by omega] at this;rw [e1];exact this
end Go.Fw
namespace Go.Fw
section
variable {κ κ':Col} {w w':World} {S S':List Nat}
mutual
theorem RC_ror (hro:∀b,okro κ w S b->okro κ' w' S' b/\Same w w' b):∀{c:CT} {p p':Pl} {x:Value} {a:A},RC κ w (c.roize S) p x a->RC κ' w' (c.roize S') p' x a
 | .d,_,_,_,.v _,h=>by simp only [CT.roize,RC] at h ⊢;exact h
 | .d,_,_,_,.s _,h=>by simp [CT.roize,RC] at h
 | .sl m e,p,p',x,.v _,h=>by simp [CT.roize,RC] at h
 | .sl m e,p,p',x,.s xs,h=>by
  simp only [CT.roize,RC] at h ⊢;obtain ⟨ao,cap,hx,hle,hc⟩:=h;refine ⟨ao,cap,hx,hle,?_⟩;rcases hc with h0|⟨b,o,rfl,hb,hr,he⟩
  ·exact .inl h0
  ·obtain ⟨hb',hsame⟩:=hro b hb;refine .inr ⟨b,o,rfl,hb',by rw [roizes_length] at hr ⊢;exact hsame.rdb hr,?_⟩;refine RCE_get (fun i _ hi => ?_) (RCE_ror hro he);rw [roizes_length] at hr hi;exact hsame.cD hr (by omega) (by omega)
theorem RCL_ror (hro:∀b,okro κ w S b->okro κ' w' S' b/\Same w w' b):∀{cs:List CT} {p p':Pl} {j:Nat} {get:Nat->Value} {as:List A},RCL κ w (CT.roizes S cs) p j get as->RCL κ' w' (CT.roizes S' cs) p' j get as
 | [],_,_,_,_,[],_=>by simp [CT.roizes,RCL]
 | c::cs,p,p',j,get,a::as,h=>by
  simp only [CT.roizes,RCL] at h ⊢;exact ⟨RC_ror hro h.1,RCL_ror hro h.2⟩
 | [],_,_,_,_,_::_,h=>by simp [CT.roizes,RCL] at h
 | _::_,_,_,_,_,[],h=>by simp [CT.roizes,RCL] at h
theorem RCE_ror (hro:∀b,okro κ w S b->okro κ' w' S' b/\Same w w' b):∀{e:List CT} {p p':Pl} {j:Nat} {get:Nat->Value} {xs:List (List A)},RCE κ w (CT.roizes S e) p j get xs->RCE κ' w' (CT.roizes S' e) p' j get xs
 | _,_,_,_,_,[],_=>by simp [RCE]
 | e,p,p',j,get,x::xs,h=>by
  simp only [RCE,roizes_length] at h ⊢;exact ⟨RCL_ror hro h.1,RCE_ror hro h.2⟩
end
end
mutual
def CT.shp:CT->CT
 | .d=>.d
 | .sl _ e=>.sl .dead (CT.shps e)
def CT.shps:List CT->List CT
 | []=>[]
 | c::cs=>c.shp::CT.shps cs
end
mutual
theorem roize_shp (S:List Nat):∀{c c':CT},c.shp=c'.shp->c.roize S=c'.roize S
 | .d,.d,_=>rfl
 | .sl m e,.sl m' e',h=>by
  simp only [CT.shp,CT.sl.injEq] at h;simp only [CT.roize];rw [roizes_shp S h.2]
 | .d,.sl _ _,h=>by simp [CT.shp] at h
 | .sl _ _,.d,h=>by simp [CT.shp] at h
theorem roizes_shp (S:List Nat):∀{cs cs':List CT},CT.shps cs=CT.shps cs'->CT.roizes S cs=CT.roizes S cs'
 | [],[],_=>rfl
 | c::cs,c'::cs',h=>by
  simp only [CT.shps,List.cons.injEq] at h;simp only [CT.roizes];rw [roize_shp S h.1,roizes_shp S h.2]
 | [],_::_,h=>by simp [CT.shps] at h
 | _::_,[],h=>by simp [CT.shps] at h
end
mutual
def CT.unpin:CT->CT
 | .d=>.d
 | .sl (.own _) e=>.sl (.own none) (CT.unpins e)
 | .sl m e=>.sl m (CT.unpins e)
def CT.unpins:List CT->List CT
 | []=>[]
 | c::cs=>c.unpin::CT.unpins cs
end
theorem unpins_length:∀cs:List CT,(CT.unpins cs).length=cs.length
 | []=>rfl
 | c::cs=>by simp [CT.unpins,unpins_length cs]
mutual
theorem RC_unpin {κ:Col} {w:World}:∀{c:CT} {p:Pl} {x:Value} {a:A},RC κ w c.unpin p x a↔RC κ w c p x a
 | .d,_,_,a=>by simp only [CT.unpin]
 | .sl (.own k) e,p,x,.s xs=>by
  simp only [CT.unpin,RC,unpins_length];constructor
  ·rintro ⟨ao,cap,h1,h2,h3⟩;refine ⟨ao,cap,h1,h2,?_⟩;rcases h3 with h3|⟨b,o,g1,g2,g3,g4,g5⟩
   ·exact .inl h3
   ·exact .inr ⟨b,o,g1,g2,g3,g4,RCE_unpin.1 g5⟩
  ·rintro ⟨ao,cap,h1,h2,h3⟩;refine ⟨ao,cap,h1,h2,?_⟩;rcases h3 with h3|⟨b,o,g1,g2,g3,g4,g5⟩
   ·exact .inl h3
   ·exact .inr ⟨b,o,g1,g2,g3,g4,RCE_unpin.2 g5⟩
 | .sl (.ro S) e,p,x,.s xs=>by
  simp only [CT.unpin,RC,unpins_length];constructor
  ·rintro ⟨ao,cap,h1,h2,h3⟩;refine ⟨ao,cap,h1,h2,?_⟩;rcases h3 with h3|⟨b,o,g1,g2,g3,g4⟩
   ·exact .inl h3
   ·exact .inr ⟨b,o,g1,g2,g3,RCE_unpin.1 g4⟩
  ·rintro ⟨ao,cap,h1,h2,h3⟩;refine ⟨ao,cap,h1,h2,?_⟩;rcases h3 with h3|⟨b,o,g1,g2,g3,g4⟩
   ·exact .inl h3
   ·exact .inr ⟨b,o,g1,g2,g3,RCE_unpin.2 g4⟩
 | .sl .dead e,p,x,.s xs=>by simp [CT.unpin,RC]
 | .sl .dead e,p,x,.v _=>by simp [CT.unpin,RC]
 | .sl (.own k) e,p,x,.v _=>by simp [CT.unpin,RC]
 | .sl (.ro S) e,p,x,.v _=>by simp [CT.unpin,RC]
theorem RCL_unpin {κ:Col} {w:World}:∀{cs:List CT} {p:Pl} {j:Nat} {get:Nat->Value} {as:List A},RCL κ w (CT.unpins cs) p j get as↔RCL κ w cs p j get as
 | [],_,_,_,_=>by simp only [CT.unpins]
 | c::cs,p,j,get,[]=>by simp [CT.unpins,RCL]
 | c::cs,p,j,get,a::as=>by
  simp only [CT.unpins,RCL];exact ⟨fun h=>⟨RC_unpin.1 h.1,RCL_unpin.1 h.2⟩,fun h=>⟨RC_unpin.2 h.1,RCL_unpin.2 h.2⟩⟩
theorem RCE_unpin {κ:Col} {w:World}:∀{e:List CT} {p:Pl} {j:Nat} {get:Nat->Value} {xs:List (List A)},RCE κ w (CT.unpins e) p j get xs↔RCE κ w e p j get xs
 | _,_,_,_,[]=>by simp [RCE]
 | e,p,j,get,x::xs=>by
  simp only [RCE,unpins_length];exact ⟨fun h=>⟨RCL_unpin.1 h.1,RCE_unpin.1 h.2⟩,fun h=>⟨RCL_unpin.2 h.1,RCE_unpin.2 h.2⟩⟩
end
def gGp (p:List Nat) (base n i:Nat) (q:List Nat):Option Pl:=
 if p <+: q then match q.drop p.length with
  | m::q'=>if base<=m/\m<base+n then some (i,(m-base)::q') else none
  | []=>none
 else none
def gBp (p:List Nat) (base:Nat):List Nat->Option (List Nat)
 | k::q=>some (p++(base+k)::q)
 | []=>none
theorem gGp_in {p:List Nat} {base n i k:Nat} {q:List Nat} (hk:k<n):gGp p base n i (p++(base+k)::q)=some (i,k::q):=by
 unfold gGp;rw [if_pos (List.prefix_append _ _),List.drop_left];simp only;rw [if_pos ⟨by omega,by omega⟩];simp
theorem gGp_out {p:List Nat} {base n i:Nat} {q:List Nat} (h:∀k,k<n->¬p++[base+k] <+: q):gGp p base n i q=none:=by
 unfold gGp;split
 ·rename_i hp;obtain ⟨r,rfl⟩:=hp;rw [List.drop_left];cases r with
  | nil=>rfl
  | cons m q'=>
   simp only;split
   ·rename_i hm;exfalso;refine h (m-base) (by omega) ?_;rw [show base+(m-base)=m from by omega];exact ⟨q',by simp⟩
   ·rfl
 ·rfl
structure CallR (κ κi κ':Col) (w w':World) (np d:Nat) (r0:Option Nat) (gG:List Nat->Option Pl) (gB:List Nat->Option (List Nat)) (Sall:List Nat) (sg:Sig):Prop where
 ki:κi=inC κ r0 gG Sall
 col0:∀b,w.heap.size<=b->κ b=none
 col:∀b,w'.heap.size<=b->κ' b=none
 fr:Fr κi w κ' w'
 fb:∀b q,κi b=some (FB,q)->κ' b=some (FB,q)/\Same w w' b
 mine:∀b r q,κ' b=some (r,q)->(r=FB/\∃q',κi b=some (FB,q'))\/r=np\/∃pm,sg.ps[r]?=some pm/\pm.mut=true
 npe:np=sg.ps.length
 npf:np<FB
section
variable {κ κi κ':Col} {w w':World} {np d:Nat} {r0:Option Nat} {gG:List Nat->Option Pl} {gB:List Nat->Option (List Nat)} {Sall:List Nat} {sg:Sig}
theorem inC_ro (hr0:∀r,r0=some r->r∉Sall) {b:Nat} (h:okro κ w Sall b) (i:Nat):okro (inC κ r0 gG Sall) w [i] b:=by
 refine ⟨h.1,fun r q hb => ?_⟩;exfalso;unfold inC at hb;cases hk:κ b with
 | none=>simp [hk] at hb
 | some p=>
  obtain ⟨r',q'⟩:=p;have:=h.2 r' q' hk;simp only [hk] at hb;rw [if_neg (fun he=>hr0 r' he.symm this.1),if_pos ⟨this.1,this.2⟩] at hb;cases hb
theorem CallR.res_ro (h:CallR κ κi κ' w w' np d r0 gG gB Sall sg) {S:List Nat} (hS:∀r,r∈S->∃pm,sg.ps[r]?=some pm/\pm.mut=false) {b:Nat} (hb:okro κ' w' S b) :
  okro (outC κ κi κ' np d w.heap.size r0 gB) w' Sall b:=by
 refine ⟨hb.1,fun r q ho => ?_⟩;have hn:κ' b=none:=by
  cases hk:κ' b with
  | none=>rfl
  | some p=>
   obtain ⟨r',q'⟩:=p;exfalso;obtain ⟨hr,_⟩:=hb.2 r' q' hk;obtain ⟨pm,hpm,hmut⟩:=hS r' hr;have hlt:=(List.getElem?_eq_some_iff.1 hpm).1;rcases h.mine b r' q' hk with ⟨rfl,q2,hf⟩|hr'|⟨pm',h1,h2⟩
   ·have h1:=h.npe;have h2:=h.npf;omega
   ·rw [h.npe] at hr';omega
   ·rw [hpm] at h1;cases h1;rw [hmut] at h2;cases h2
 unfold outC at ho;rw [hn] at ho;simp only at ho;split at ho;case isFalse=>cases ho
 case isTrue hc=>
 cases hk:κ b with
 | none=>simp [hk] at ho
 | some p=>
  obtain ⟨r',q'⟩:=p;have hi:=hc.1;rw [h.ki] at hi;simp only [inC,hk] at hi;simp only [hk,Option.bind_some,clrF] at ho;split at ho;case isTrue=>cases ho
  case isFalse hd=>
  cases ho;split at hi
  ·split at hi<;>cases hi
  ·split at hi
   ·assumption
   ·cases hi
end
end Go.Fw
namespace Go.Fw
mutual
def CT.noro:CT->Bool
 | .d=>true
 | .sl (.own _) e=>CT.noros e
 | _=>false
def CT.noros:List CT->Bool
 | []=>true
 | c::cs=>c.noro&&CT.noros cs
end
mutual
theorem noro_allS {P:List Nat->Prop}:∀{c:CT},c.noro=true->c.allS P
 | .d,_=>by simp [CT.allS]
 | .sl (.own _) e,h=>by simp only [CT.noro] at h;simp only [CT.allS];exact noros_allSs h
 | .sl (.ro _) e,h=>by simp [CT.noro] at h
 | .sl .dead e,h=>by simp [CT.noro] at h
theorem noros_allSs {P:List Nat->Prop}:∀{cs:List CT},CT.noros cs=true->CT.allSs P cs
 | [],_=>by simp [CT.allSs]
 | c::cs,h=>by
  simp only [CT.noros,Bool.and_eq_true] at h;simp only [CT.allSs];exact ⟨noro_allS h.1,noros_allSs h.2⟩
end
theorem RCL_allD {κ κ':Col} {w w':World} {S:List Nat}:∀{cs:List CT} {p p':Pl} {j:Nat} {get:Nat->Value} {as:List A},allD cs=true->RCL κ w cs p j get as->RCL κ' w' (CT.roizes S cs) p' j get as
 | [],_,_,_,_,[],_,_=>by simp [CT.roizes,RCL]
 | [],_,_,_,_,_::_,_,h=>by simp [RCL] at h
 | _::_,_,_,_,_,[],_,h=>by simp [RCL] at h
 | .sl m e::cs,_,_,_,_,_::_,hd,_=>by simp [allD] at hd
 | .d::cs,p,p',j,get,a::as,hd,h=>by
  simp only [CT.roizes,CT.roize,RCL] at h ⊢;refine ⟨?_,RCL_allD (by simpa [allD] using hd) h.2⟩;cases a with
  | v y=>simpa only [RC] using h.1
  | s xs=>simp [RC] at h
theorem shps_allD:∀{cs cs':List CT},CT.shps cs=CT.shps cs'->allD cs'=true->allD cs=true
 | [],[],_,_=>rfl
 | c::cs,c'::cs',h,hd=>by
  simp only [CT.shps,List.cons.injEq] at h;simp only [allD,List.all_cons,Bool.and_eq_true] at hd ⊢;refine ⟨?_,shps_allD h.2 hd.2⟩;cases c with
  | d=>rfl
  | sl m e=>cases c' with
   | d=>simp [CT.shp] at h
   | sl m' e'=>simp at hd
 | [],_::_,h,_=>by simp [CT.shps] at h
 | _::_,[],h,_=>by simp [CT.shps] at h
section
variable {κ:Col} {w:World} {S:List Nat}
mutual
theorem RC_ron:∀{c:CT} {p p':Pl} {x:Value} {a:A},c.live=true->c.nown=true->c.allS (fun S0=>∀r,r∈S0->r∈S)->RC κ w c p x a->RC κ w (c.roize S) p' x a
 | .d,_,_,_,.v _,_,_,_,h=>by simp only [CT.roize,RC] at h ⊢;exact h
 | .sl (.own k) e,p,p',x,.s xs,hl,hn,hs,h=>by simp [CT.nown] at hn
 | .sl (.ro S0) e,p,p',x,.s xs,hl,hn,hs,h=>by
  simp only [CT.roize,RC,CT.allS,CT.live,CT.nown] at h hs hl hn ⊢;obtain ⟨ao,cap,hx,hle,hc⟩:=h;refine ⟨ao,cap,hx,hle,?_⟩;rcases hc with hn'|⟨b,o,rfl,hb,hr,he⟩
  ·exact .inl hn'
  ·exact .inr ⟨b,o,rfl,okro_mono hb hs.1,by rw [roizes_length];exact hr,RCE_ron hl hn hs.2 he⟩
 | .sl .dead e,_,_,_,_,hl,_,_,_=>by simp [CT.live] at hl
 | .d,_,_,_,.s _,_,_,_,h=>by simp [RC] at h
 | .sl (.ro _) _,_,_,_,.v _,_,_,_,h=>by simp [RC] at h
 | .sl (.own _) _,_,_,_,.v _,_,_,_,h=>by simp [RC] at h
theorem RCL_ron:∀{cs:List CT} {p p':Pl} {j:Nat} {get:Nat->Value} {as:List A},CT.lives cs=true->CT.nowns cs=true->CT.allSs (fun S0=>∀r,r∈S0->r∈S) cs ->
  RCL κ w cs p j get as->RCL κ w (CT.roizes S cs) p' j get as
 | [],_,_,_,_,[],_,_,_,_=>by simp [CT.roizes,RCL]
 | c::cs,p,p',j,get,a::as,hl,hn,hs,h=>by
  simp only [CT.roizes,CT.allSs,CT.lives,CT.nowns,RCL,Bool.and_eq_true] at h hs hl hn ⊢;exact ⟨RC_ron (p:=p.at j) hl.1 hn.1 hs.1 h.1,RCL_ron hl.2 hn.2 hs.2 h.2⟩
 | [],_,_,_,_,_::_,_,_,_,h=>by simp [RCL] at h
 | _::_,_,_,_,_,[],_,_,_,h=>by simp [RCL] at h
theorem RCE_ron:∀{e:List CT} {p p':Pl} {j:Nat} {get:Nat->Value} {xs:List (List A)},CT.lives e=true->CT.nowns e=true->CT.allSs (fun S0=>∀r,r∈S0->r∈S) e ->
  RCE κ w e p j get xs->RCE κ w (CT.roizes S e) p' j get xs
 | e,_,_,_,_,[],_,_,_,_=>by simp [RCE]
 | e,p,p',j,get,x::xs,hl,hn,hs,h=>by
  simp only [RCE] at h ⊢;exact ⟨RCL_ron hl hn hs h.1,by rw [roizes_length];exact RCE_ron hl hn hs h.2⟩
end
theorem RCL_rosn {p p':Pl} {get get':Nat->Value} {cs:List CT} {j j':Nat} {as:List A} (hl:CT.lives cs=true) (hn:CT.nowns cs=true)
  (hs:CT.allSs (fun S0=>∀r,r∈S0->r∈S) cs) (hg:∀i,i<cs.length->get' (j'+i)=get (j+i)) (h:RCL κ w cs p j get as):RCL κ w (CT.roizes S cs) p' j' get' as:=by
 induction cs generalizing j j' as with
 | nil=>cases as with
  | nil=>simp [CT.roizes,RCL]
  | cons=>simp [RCL] at h
 | cons c cs ih=>
  cases as with
  | nil=>simp [RCL] at h
  | cons a as=>
   simp only [CT.roizes,CT.allSs,CT.lives,CT.nowns,RCL,Bool.and_eq_true] at h hs hl hn ⊢;refine ⟨?_,ih hl.2 hn.2 hs.2 (fun i hi => ?_) h.2⟩
   ·have:=hg 0 (by simp);simp at this;rw [this];exact RC_ron (p:=p.at j) hl.1 hn.1 hs.1 h.1
   ·have:=hg (i+1) (by simpa using hi);simpa [Nat.add_comm,Nat.add_left_comm,Nat.add_assoc] using this
end
def rdX (P:Program) (g:Nat->TT) (ty:TypeId) (i:Nat) (ag:Bool) (cs:List CT) (x:Operand):Option (OX × List Nat):=
 match opX P g ty i x with
 | some X=>if X.ag=ag/\CT.lives X.cs=true/\CT.beqs (CT.shps X.cs) (CT.shps cs)=true then some (X,if allD cs then [] else if CT.nowns X.cs then CT.srcss X.cs else X.t::CT.srcss X.cs) else none
 | none=>none
section
variable {P:Program} {ac:Nat->Nat->Value} {κ0 κ:Col} {w0 w:World} {N:Nat} {tg g:Nat->TT} {sv s:Nat->AV} {a:Act}
theorem rdX_ok (h:R ac κ0 w0 κ w N tg sv (gm a)) (hL:Le g s tg sv) {ty:TypeId} {i:Nat} {ag:Bool} {cs:List CT} {x:Operand} {X:OX} {S:List Nat} (hx:rdX P g ty i ag cs x=some (X,S)) {as:List A} (hg:X.get s=some as)
  {r0:Option Nat} {gG:List Nat->Option Pl} {Sall:List Nat} (hS:∀r,r∈S->r∈Sall) (hr0:∀r,r0=some r->r∉Sall):ArgR (inC κ r0 gG Sall) w i (a.eval x) as (.rd ag cs):=by
 unfold rdX at hx;split at hx;case h_2=>cases hx
 case h_1 X' hX=>
 split at hx;case isFalse=>cases hx
 case isTrue hc=>
 obtain ⟨hag,hlv,hshp⟩:=hc;simp only [Option.some.injEq,Prod.mk.injEq] at hx;obtain ⟨rfl,hSe⟩:=hx;obtain ⟨vs,h1,h2,h3,_⟩:=opX_ok h hL hX hg;have hshp':=CT.beqs_eq hshp;have hlen:X'.cs.length=cs.length:=by
  have:=congrArg (fun l=>(CT.roizes [] l).length) rfl (a₁:=X'.cs) (a₂:=X'.cs);have h4:=roizes_shp [] hshp';have:=congrArg List.length h4;simpa [roizes_length] using this
 refine ⟨vs,by rw [<-hag];exact h1,by rw [h2,hlen],?_⟩;rw [<-roizes_shp [i] hshp'];cases hD:allD cs with
 | true=>exact RCL_allD (shps_allD hshp' hD) h3
 | false=>
  rw [hD] at hSe;simp only [Bool.false_eq_true,if_false] at hSe;by_cases hnw:CT.nowns X'.cs=true
  ·rw [if_pos hnw] at hSe;subst hSe;have h5:=RCL_rosn (S:=Sall) (p':=(i,[])) (j':=0) (get':=fun k=>vs.getD k undef) hlv hnw (by
    have:=srcss_allSs (S:=Sall) (cs:=X'.cs) fun r hr=>hS r hr
    exact this) (fun k _=>rfl) h3
   exact RCL_ror (fun b hb=>⟨inC_ro hr0 hb i,Same.refl w b⟩) h5
  rw [if_neg hnw] at hSe;subst hSe;have h5:=RCL_ros (S:=Sall) (p':=(i,[])) (j':=0) (get':=fun k=>vs.getD k undef) hlv (hS _ (by simp)) (by
   have:=srcss_allSs (S:=Sall) (cs:=X'.cs) fun r hr=>hS r (by simp [hr])
   exact this) (fun k _=>rfl) h3
  exact RCL_ror (fun b hb=>⟨inC_ro hr0 hb i,Same.refl w b⟩) h5
theorem inC_rb {r0:Option Nat} {gG:List Nat->Option Pl} {Sall S:List Nat} (hr0:∀r,r0=some r->r∉S) {b:Nat} (h:okro κ w S b):okro (inC κ r0 gG Sall) w [FB] b:=by
 refine ⟨h.1,fun r q hb => ?_⟩;unfold inC at hb;cases hk:κ b with
 | none=>simp [hk] at hb
 | some p=>
  obtain ⟨r',q'⟩:=p;have:=h.2 r' q' hk;simp only [hk] at hb;rw [if_neg (fun he=>hr0 r' he.symm this.1)] at hb;split at hb
  ·cases hb
  ·cases hb;exact ⟨by simp,by simp⟩
theorem rbX_ok (h:R ac κ0 w0 κ w N tg sv (gm a)) (hL:Le g s tg sv) {ty:TypeId} {i:Nat} {ag:Bool} {cs:List CT} {x:Operand} {X:OX} {S:List Nat} (hx:rdX P g ty i ag cs x=some (X,S)) {as:List A} (hg:X.get s=some as)
  {r0:Option Nat} {gG:List Nat->Option Pl} {Sall:List Nat} (hr0:∀r,r0=some r->r∉S):ArgR (inC κ r0 gG Sall) w i (a.eval x) as (.rb ag cs):=by
 unfold rdX at hx;split at hx;case h_2=>cases hx
 case h_1 X' hX=>
 split at hx;case isFalse=>cases hx
 case isTrue hc=>
 obtain ⟨hag,hlv,hshp⟩:=hc;simp only [Option.some.injEq,Prod.mk.injEq] at hx;obtain ⟨rfl,hSe⟩:=hx;obtain ⟨vs,h1,h2,h3,_⟩:=opX_ok h hL hX hg;have hshp':=CT.beqs_eq hshp;have hlen:X'.cs.length=cs.length:=by
  have:=congrArg (fun l=>(CT.roizes [] l).length) rfl (a₁:=X'.cs) (a₂:=X'.cs);have h4:=roizes_shp [] hshp';have:=congrArg List.length h4;simpa [roizes_length] using this
 refine ⟨vs,by rw [<-hag];exact h1,by rw [h2,hlen],?_⟩;rw [<-roizes_shp [FB] hshp'];cases hD:allD cs with
 | true=>exact RCL_allD (shps_allD hshp' hD) h3
 | false=>
  rw [hD] at hSe;simp only [Bool.false_eq_true,if_false] at hSe;by_cases hnw:CT.nowns X'.cs=true
  ·rw [if_pos hnw] at hSe;subst hSe;have h5:=RCL_rosn (S:=CT.srcss X'.cs) (p':=(i,[])) (j':=0) (get':=fun k=>vs.getD k undef) hlv hnw (by
    have:=srcss_allSs (S:=CT.srcss X'.cs) (cs:=X'.cs) fun r hr=>hr
    exact this) (fun k _=>rfl) h3
   exact RCL_ror (fun b hb=>⟨inC_rb hr0 hb,Same.refl w b⟩) h5
  rw [if_neg hnw] at hSe;subst hSe;have h5:=RCL_ros (S:=X'.t::CT.srcss X'.cs) (p':=(i,[])) (j':=0) (get':=fun k=>vs.getD k undef) hlv (by simp) (by
   have:=srcss_allSs (S:=X'.t::CT.srcss X'.cs) (cs:=X'.cs) fun r hr=>by simp [hr]
   exact this) (fun k _=>rfl) h3
  exact RCL_ror (fun b hb=>⟨inC_rb hr0 hb,Same.refl w b⟩) h5
end
structure AX where
 gets:List ((Nat->AV)->Option (List A))
 rd:List Nat
 S:List Nat
 sp:Option (Nat × PM × Operand)
 B:List Nat:=[]
def spGet (g:Nat->TT) (pm:PM) (x:Operand):Option (((Nat->AV)->Option (List A)) × List Nat):=
 match pm,x with
 | .tk _ _,.tmp t=>some (getA t,[t])
 | .mt _ _,.tmp t=>some (getA t,[t])
 | .mp _,.tmp t=>match g t with
  | .ptr r [] 0 _=>some (getA r,[r])
  | .box _=>some (getA t,[t])
  | _=>none
 | _,_=>none
def argsX (P:Program) (g:Nat->TT):Nat->List PM->List Operand->List TypeId->Option AX
 | _,[],[],[]=>some ⟨[],[],[],none,[]⟩
 | i,pm::ps,x::xs,ty::tys=>match argsX P g (i+1) ps xs tys with
  | some Y=>match pm with
   | .rd ag cs=>match rdX P g ty i ag cs x with
    | some (X,S)=>some ⟨X.get::Y.gets,X.rd++Y.rd,S++Y.S,Y.sp,Y.B⟩
    | none=>none
   | .rb ag cs=>match rdX P g ty i ag cs x with
    | some (X,S)=>some ⟨X.get::Y.gets,X.rd++Y.rd,Y.S,Y.sp,S++Y.B⟩
    | none=>none
   | pm=>match Y.sp,spGet g pm x with
    | none,some (f,rd)=>some ⟨f::Y.gets,rd++Y.rd,Y.S,some (i,pm,x),Y.B⟩
    | _,_=>none
  | none=>none
 | _,_,_,_=>none
def getsL (s:Nat->AV):List ((Nat->AV)->Option (List A))->Option (List (List A))
 | []=>some []
 | f::fs=>match f s,getsL s fs with
  | some as,some r=>some (as::r)
  | _,_=>none
section
variable {P:Program} {ac:Nat->Nat->Value} {κ0 κ:Col} {w0 w:World} {N:Nat} {tg g:Nat->TT} {sv s:Nat->AV} {a:Act}
theorem argsX_ok (h:R ac κ0 w0 κ w N tg sv (gm a)) (hL:Le g s tg sv) {r0:Option Nat} {gG:List Nat->Option Pl} {Sall:List Nat} (hr0:∀r,r0=some r->r∉Sall) :
  ∀{i:Nat} {ps:List PM} {xs:List Operand} {tys:List TypeId} {Y:AX} {ass:List (List A)},argsX P g i ps xs tys=some Y->getsL s Y.gets=some ass->(∀r,r∈Y.S->r∈Sall)->(∀r,r0=some r->r∉Y.B) ->
   (∀j pm x f rd as,Y.sp=some (j,pm,x)->spGet g pm x=some (f,rd)->f s=some as->ArgR (inC κ r0 gG Sall) w j (a.eval x) as pm) ->
   xs.length=ps.length/\ass.length=ps.length/\(∀k pm x as,ps[k]?=some pm->(xs.map a.eval)[k]?=some x->ass[k]?=some as->ArgR (inC κ r0 gG Sall) w (i+k) x as pm) /\
   (∀j pm x,Y.sp=some (j,pm,x)->i<=j/\ps[j-i]?=some pm/\pm.mut=true/\xs[j-i]?=some x/\∃f rd as,spGet g pm x=some (f,rd)/\f s=some as/\ass[j-i]?=some as) /\
   (∀k pm,ps[k]?=some pm->pm.mut=true->∃x,Y.sp=some (i+k,pm,x))
 | i,[],[],[],Y,ass,hx,hg,_,_,_=>by
  simp only [argsX,Option.some.injEq] at hx
  subst hx
  simp only [getsL,Option.some.injEq] at hg
  subst hg
  simp
 | i,pm::ps,x::xs,ty::tys,Y,ass,hx,hg,hS,hB,hsp=>by
  simp only [argsX] at hx
  split at hx
  case h_2=>cases hx
  case h_1 Y' hY=>
  split at hx
  ·rename_i ag cs
   split at hx
   case h_2=>cases hx
   case h_1 X S hX=>
   cases hx
   simp only [getsL] at hg
   split at hg
   case h_2=>cases hg
   case h_1 as ass' has hg'=>
   cases hg
   obtain ⟨k1,k2,k3,k4,k5⟩:=argsX_ok h hL hr0 hY hg' (fun r hr=>hS r (by simp [hr])) hB (fun j pm x f rd as hj=>hsp j pm x f rd as hj)
   refine ⟨by simp [k1],by simp [k2],fun k pm' x' as' h1 h2 h3 => ?_,fun j pm' x' hj => ?_,fun k pm' h1 h2 => ?_⟩
   ·cases k with
    | zero=>
     simp at h1 h2 h3
     subst h1 h2 h3
     exact rdX_ok h hL hX has (fun r hr=>hS r (by simp [hr])) hr0
    | succ k=>
     rw [show i+(k+1)=i+1+k from by omega]
     exact k3 k pm' x' as' (by simpa using h1) (by simpa using h2) (by simpa using h3)
   ·obtain ⟨g1,g2,g3,g4,f,rd,as',g5,g6,g7⟩:=k4 j pm' x' hj
    have e1:j-i=(j-(i+1))+1:=by omega
    rw [e1]
    exact ⟨by omega,by simpa using g2,g3,by simpa using g4,f,rd,as',g5,g6,by simpa using g7⟩
   ·cases k with
    | zero=>simp at h1;subst h1;simp [PM.mut] at h2
    | succ k=>
     obtain ⟨x',hx'⟩:=k5 k pm' (by simpa using h1) h2
     exact ⟨x',by rw [show i+(k+1)=i+1+k from by omega];exact hx'⟩
  ·rename_i ag cs
   split at hx
   case h_2=>cases hx
   case h_1 X S hX=>
   cases hx
   simp only [getsL] at hg
   split at hg
   case h_2=>cases hg
   case h_1 as ass' has hg'=>
   cases hg
   obtain ⟨k1,k2,k3,k4,k5⟩:=argsX_ok h hL hr0 hY hg' hS (fun r hr hm=>hB r hr (by simp [hm])) (fun j pm x f rd as hj=>hsp j pm x f rd as hj)
   refine ⟨by simp [k1],by simp [k2],fun k pm' x' as' h1 h2 h3 => ?_,fun j pm' x' hj => ?_,fun k pm' h1 h2 => ?_⟩
   ·cases k with
    | zero=>
     simp at h1 h2 h3
     subst h1 h2 h3
     exact rbX_ok h hL hX has (fun r hr hm=>hB r hr (by simp [hm]))
    | succ k=>
     rw [show i+(k+1)=i+1+k from by omega]
     exact k3 k pm' x' as' (by simpa using h1) (by simpa using h2) (by simpa using h3)
   ·obtain ⟨g1,g2,g3,g4,f,rd,as',g5,g6,g7⟩:=k4 j pm' x' hj
    have e1:j-i=(j-(i+1))+1:=by omega
    rw [e1]
    exact ⟨by omega,by simpa using g2,g3,by simpa using g4,f,rd,as',g5,g6,by simpa using g7⟩
   ·cases k with
    | zero=>simp at h1;subst h1;simp [PM.mut] at h2
    | succ k=>
     obtain ⟨x',hx'⟩:=k5 k pm' (by simpa using h1) h2
     exact ⟨x',by rw [show i+(k+1)=i+1+k from by omega];exact hx'⟩
  ·rename_i hnrd hnrb
   split at hx
   case h_2=>cases hx
   case h_1 f rd hspn hsg=>
   cases hx
   simp only [getsL] at hg
   split at hg
   case h_2=>cases hg
   case h_1 as ass' has hg'=>
   cases hg
   obtain ⟨k1,k2,k3,k4,k5⟩:=argsX_ok h hL hr0 hY hg' (fun r hr=>hS r hr) hB (fun j pm x f rd as hj=>by rw [hspn] at hj;cases hj)
   have hmut:pm.mut=true:=by
    cases pm with
    | rd ag cs=>exact absurd rfl (hnrd ag cs)
    | rb ag cs=>exact absurd rfl (hnrb ag cs)
    | _=>rfl
   refine ⟨by simp [k1],by simp [k2],fun k pm' x' as' h1 h2 h3 => ?_,fun j pm' x' hj => ?_,fun k pm' h1 h2 => ?_⟩
   ·cases k with
    | zero=>
     simp at h1 h2 h3
     subst h1 h2 h3
     exact hsp i pm x f rd as rfl hsg has
    | succ k=>
     rw [show i+(k+1)=i+1+k from by omega]
     exact k3 k pm' x' as' (by simpa using h1) (by simpa using h2) (by simpa using h3)
   ·simp only [Option.some.injEq,Prod.mk.injEq] at hj
    obtain ⟨rfl,rfl,rfl⟩:=hj
    exact ⟨Nat.le_refl _,by simp,hmut,by simp,f,rd,as,hsg,has,by simp⟩
   ·cases k with
    | zero=>simp at h1;subst h1;exact ⟨x,rfl⟩
    | succ k=>
     obtain ⟨x',hx'⟩:=k5 k pm' (by simpa using h1) h2
     rw [hspn] at hx';cases hx'
 | _,[],_::_,_,_,_,hx,_,_,_,_=>by simp [argsX] at hx
 | _,[],[],_::_,_,_,hx,_,_,_,_=>by simp [argsX] at hx
 | _,_::_,[],_,_,_,hx,_,_,_,_=>by simp [argsX] at hx
 | _,_::_,_::_,[],_,_,hx,_,_,_,_=>by simp [argsX] at hx
end
end Go.Fw
namespace Go.Fw
section
variable {ac:Nat->Nat->Value} {κ0 κ κ':Col} {w0 w w':World} {N:Nat} {tg tg1 tg2:Nat->TT} {sv sv1:Nat->AV} {tm tm1:Nat->Value}
theorem R_reS (h:R ac κ0 w0 κ w N tg sv tm) (h':R ac κ0 w0 κ' w' N tg1 sv1 tm1) {r:Nat} {mods M X:List Nat} (hmods:r∈mods)
  (hX:∀u,u∉X->tg1 u=(tg u).kill mods M/\tg2 u=(tg u).killS r mods M/\sv1 u=sv u/\tm1 u=tm u) (hX2:∀u,u∈X->tg2 u=tg1 u)
  (hb:(∃cb,tg r = .box cb)->(∃cb',tg1 r = .box cb')/\tm1 r=tm r):R ac κ0 w0 κ' w' N tg2 sv1 tm1:=by
 by_cases hbox:∃cb,tg r = .box cb
 ·obtain ⟨⟨cb',hcb'⟩,htm⟩:=hb hbox;obtain ⟨cb,hcb⟩:=hbox;have hk:=h.tr r;rw [hcb] at hk;simp only [TR] at hk;obtain ⟨as2,b,_,k2,_⟩:=hk;refine R_reptr h' (r:=r) (b:=b) hcb' (by rw [htm];exact k2) fun u => ?_
  by_cases hu:u∈X
  ·exact .inl (hX2 u hu)
  ·obtain ⟨e1,e2,e3,e4⟩:=hX u hu;by_cases hsame:(tg u).killS r mods M=(tg u).kill mods M
   ·left;rw [e1,e2,hsame]
   ·right;obtain ⟨off',S',hp,hk'⟩:=killS_ne hsame;have hu:=h.tr u;rw [hp] at hu;simp only [TR] at hu;obtain ⟨is',B,O,u1,u2,_,_,u5⟩:=hu;rw [hcb] at u2;simp only [paddr,rb,k2,Option.map_some] at u2;have his:is'=[]/\B=b/\O=0:=by
     cases is' with
     | nil=>simp only [wk,Option.some.injEq,Prod.mk.injEq] at u2;exact ⟨rfl,u2.1.symm,u2.2.symm⟩
     | cons=>simp [wk] at u2
    obtain ⟨rfl,rfl,rfl⟩:=his;refine ⟨by rw [e1,hp];simp [TT.kill,hmods],?_,off',S',by rw [e2,hk',hp],by rw [e3];exact u1,by rw [e4];exact u5⟩;apply Nat.lt_of_not_le;intro hle;have:=h.out u hle;rw [hp] at this;cases this
 ·have:tg2=tg1:=by
   funext u;by_cases hu:u∈X
   ·exact hX2 u hu
   ·obtain ⟨e1,e2,_,_⟩:=hX u hu;rw [e1,e2];by_cases hsame:(tg u).killS r mods M=(tg u).kill mods M
    ·exact hsame
    ·exfalso;obtain ⟨off',S',hp,_⟩:=killS_ne hsame;have hu:=h.tr u;rw [hp] at hu;simp only [TR] at hu;obtain ⟨is',B,O,u1,u2,_⟩:=hu;have:rb (tg r) (tm r)=none:=by
      cases hTr:tg r with
      | box cb=>exact absurd ⟨cb,hTr⟩ hbox
      | _=>simp [rb]
     rw [this] at u2;cases is' with
     | nil=>simp [paddr,wk] at u2
     | cons=>simp [paddr,wk] at u2
  rw [this];exact h'
end
def resTag (Sall:List Nat):RS->TT
 | .u=>.dead
 | .one ag cs=>.val ag (CT.mapSs (fun _=>Sall) cs)
 | .tup ws cs=>.tup ws (CT.mapSs (fun _=>Sall) cs)
 | .bx cs=>.box (CT.mapSs (fun _=>Sall) cs)
def RS.cs:RS->List CT
 | .u=>[]
 | .one _ cs=>cs
 | .tup _ cs=>cs
 | .bx cs=>cs
def resAV (res:List A):RS->AV
 | .u=>.n
 | _=>.v res []
def resOk (sg:Sig) (Sall:List Nat):Bool:=
 (CT.srcss sg.res.cs).all (fun r=>match sg.ps[r]? with
  | some pm=>!pm.mut
  | none=>false)&&noPin (CT.mapSs (fun _=>Sall) sg.res.cs)
theorem srcs_allS2 {P:Nat->Prop}:(∀{c:CT},(∀r,r∈c.srcs->P r)->c.allS (fun S=>∀r,r∈S->P r))/\(∀{cs:List CT},(∀r,r∈CT.srcss cs->P r)->CT.allSs (fun S=>∀r,r∈S->P r) cs):=⟨one,many⟩
where
 one {P:Nat->Prop}:∀{c:CT},(∀r,r∈c.srcs->P r)->c.allS (fun S=>∀r,r∈S->P r)
  | .d,_=>by simp [CT.allS]
  | .sl (.ro S0) e,h=>by
   simp only [CT.srcs,List.mem_append] at h
   simp only [CT.allS]
   exact ⟨fun r hr=>h r (.inl hr),many fun r hr=>h r (.inr hr)⟩
  | .sl (.own _) e,h=>by simp only [CT.srcs] at h;simp only [CT.allS];exact many h
  | .sl .dead e,h=>by simp only [CT.srcs] at h;simp only [CT.allS];exact many h
 many {P:Nat->Prop}:∀{cs:List CT},(∀r,r∈CT.srcss cs->P r)->CT.allSs (fun S=>∀r,r∈S->P r) cs
  | [],_=>by simp [CT.allSs]
  | c::cs,h=>by
   simp only [CT.srcss,List.mem_append] at h
   simp only [CT.allSs]
   exact ⟨one fun r hr=>h r (.inl hr),many fun r hr=>h r (.inr hr)⟩
section
variable {ac:Nat->Nat->Value} {κ κi κ':Col} {w w':World} {np d:Nat} {r0:Option Nat} {gG:List Nat->Option Pl} {gB:List Nat->Option (List Nat)} {Sall:List Nat} {sg:Sig}
theorem CallR.row (h:CallR κ κi κ' w w' np d r0 gG gB Sall sg) (hS:∀r,r∈CT.srcss sg.res.cs->∃pm,sg.ps[r]?=some pm/\pm.mut=false) {get get':Nat->Value} {as:List A} (hr:RCL κ' w' sg.res.cs (np,[]) 0 get as) (hg:∀i,i<sg.res.cs.length->get' i=get i) :
  RCL (outC κ κi κ' np d w.heap.size r0 gB) w' (CT.mapSs (fun _=>Sall) sg.res.cs) (d,[]) 0 get' as:=by
 refine RCL_moves (f:=fun _=>Sall) (P:=fun S=>∀r,r∈S->∃pm,sg.ps[r]?=some pm/\pm.mut=false) (fun S hS b hb=>⟨h.res_ro hS hb,Same.refl w' b⟩) (srcs_allS2.2 hS) (fun i hi b q hb=>⟨?_,Same.refl w' b⟩) (fun i hi=>by simpa using hg i hi) hr;unfold outC;rw [hb];simp
theorem CallR.tr (h:CallR κ κi κ' w w' np d r0 gG gB Sall sg) (hok:resOk sg Sall=true) {v:Value} {res:List A} (hr:ResR κ' w' np v res sg.res) (tg':Nat->TT) (sv:Nat->AV) (tm:Nat->Value) (hsv:sv d=resAV res sg.res) (htm:tm d=v) :
  TR ac (outC κ κi κ' np d w.heap.size r0 gB) w' tg' sv tm d (resTag Sall sg.res):=by
 simp only [resOk,Bool.and_eq_true,List.all_eq_true] at hok;have hS:∀r,r∈CT.srcss sg.res.cs->∃pm,sg.ps[r]?=some pm/\pm.mut=false:=by
  intro r hr;have:=hok.1 r hr;split at this
  ·rename_i pm hpm;exact ⟨pm,hpm,by simpa using this⟩
  ·cases this
 have hrow:=fun {get get':Nat->Value} {as:List A}=>h.row hS (get:=get) (get':=get') (as:=as)
 have hnp:=hok.2;cases hres:sg.res with
 | u=>simp [resTag,TR]
 | one ag cs=>
  rw [hres] at hr hsv hnp hrow;simp only [RS.cs] at hnp hrow;obtain ⟨vs,h1,h2,h3⟩:=hr;simp only [resTag,TR,hsv,htm,resAV];exact ⟨res,vs,rfl,h1,by rw [mapSs_length];exact h2,noPin_pins hnp,hrow h3 fun i _=>rfl⟩
 | tup ws cs=>
  rw [hres] at hr hsv hnp hrow;simp only [RS.cs] at hnp hrow;obtain ⟨xs,vs,h1,h2,h3,h4⟩:=hr;simp only [resTag,TR,hsv,htm,resAV];exact ⟨res,xs,vs,rfl,h1,h2,by rw [mapSs_length];exact h3,hrow h4 fun i _=>rfl⟩
 | bx cs=>
  rw [hres] at hr hsv hnp hrow;simp only [RS.cs] at hnp hrow;obtain ⟨b,h1,h2,h3,h4,h5⟩:=hr;simp only [resTag,TR,hsv,htm,resAV];refine ⟨res,b,rfl,h1,h2,?_,by rw [mapSs_length];exact h4,noPin_pins hnp,hrow h5 fun i _=>rfl⟩;unfold outC;rw [h3];simp
theorem sp_in {cs:List CT} {r j base n:Nat} {p:List Nat} {get get':Nat->Value} {as:List A} (hn:n=cs.length) (hno:CT.noros cs=true) (hg:∀i,i<cs.length->get' i=get (base+i)) (h:RCL κ w cs (r,p) base get as) :
  RCL (inC κ (some r) (gGp p base n j) Sall) w cs (j,[]) 0 get' as:=by
 have:=RCL_moves (f:=id) (P:=fun _=>False) (κ:=κ) (w:=w) (κ':=inC κ (some r) (gGp p base n j) Sall) (w':=w) (p':=(j,[])) (j':=0) (get':=get') (fun S hS=>hS.elim) (noros_allSs hno) (fun i hi b q hb=>⟨?_,Same.refl w b⟩) (fun i hi=>by simpa using hg i hi) h
 ·rwa [mapSs_id] at this
 ·unfold inC;rw [hb];simp only [if_true,List.nil_append,Nat.zero_add];rw [gGp_in (by omega)]
theorem sp_out {cs:List CT} {r base:Nat} {p:List Nat} {get get':Nat->Value} {as:List A} {j:Nat} (hj:j≠np) (hjf:j≠FB) (hno:CT.noros cs=true) (hg:∀i,i<cs.length->get' (base+i)=get i) (h:RCL κ' w' cs (j,[]) 0 get as) :
  RCL (outC κ κi κ' np d w.heap.size (some r) (gBp p base)) w' cs (r,p) base get' as:=by
 have:=RCL_moves (f:=id) (P:=fun _=>False) (κ:=κ') (w:=w') (κ':=outC κ κi κ' np d w.heap.size (some r) (gBp p base)) (w':=w') (p':=(r,p)) (j':=base) (get':=get') (fun S hS=>hS.elim) (noros_allSs hno) (fun i hi b q hb=>⟨?_,Same.refl w' b⟩) (fun i hi=>by simpa using hg i hi) h
 ·rwa [mapSs_id] at this
 ·unfold outC;rw [hb];simp only [List.nil_append,Nat.zero_add,if_neg hj,if_neg hjf,gBp]
theorem CallR.old (h:CallR κ κi κ' w w' np d r0 gG gB Sall sg) {b:Nat} {r:Nat} {q:List Nat} (hk:κ b=some (r,q)) (hg:some r=r0->gG q=none) (hS:some r≠r0->¬(r∈Sall/\q≠[])) (hd:r≠d) :
  outC κ κi κ' np d w.heap.size r0 gB b=κ b/\Same w w' b:=by
 have hi:κi b=some (FB,[0]):=by
  rw [h.ki];unfold inC;rw [hk];simp only;split
  ·rename_i he;rw [hg he]
  ·rename_i he;rw [if_neg (hS he)]
 obtain ⟨h1,h2⟩:=h.fb b _ hi;refine ⟨?_,h2⟩;unfold outC;rw [h1];have h3:=h.npf;simp only;rw [if_neg (by omega),if_pos trivial,hk];simp [clrF,hd]
end
end Go.Fw
namespace Go.Fw
section
variable {ac:Nat->Nat->Value} {κ0 κ κi κ':Col} {w0 w w':World} {N:Nat} {tg:Nat->TT} {sv:Nat->AV} {tm:Nat->Value}
theorem Wrb_rdb {w:World} {b lo hi:Nat} (h:Wrb w b lo hi):Rdb w b lo hi:=fun o h1 h2=>(h o h1 h2).1
theorem place_row {r:Nat} {cs e:List CT} {sk:Sk} {is:List Nat} {get g:Nat->Value} {ra row:List A} (hroot:RCL κ w cs (r,[]) 0 get ra) (he:tagL true cs sk=some e) (hl:lookL ra sk is=some row)
  (hp:pcell w get sk is=some g) :
  RCL κ w e (r,(pth [] 0 sk is).1) (pth [] 0 sk is).2 (fun k=>g (k-(pth [] 0 sk is).2)) row:=by
 cases sk with
 | nil=>
  cases is with
  | cons=>simp [lookL] at hl
  | nil=>
   simp only [tagL,Option.some.injEq] at he;simp only [lookL,Option.some.injEq] at hl;simp only [pcell,Option.some.injEq] at hp;subst he hl hp;simpa [pth] using hroot
 | cons s0 sk=>
  obtain ⟨b,o,h1,_,_,h4⟩:=foc_own (bo:=none) (by simp) hroot he hl;simp only [pcell,Option.map_eq_some_iff] at hp;obtain ⟨BO,h5,rfl⟩:=hp;simp only [Nat.zero_add] at h1;rw [h5] at h1;cases h1;refine RCL_get (fun i hi _ => ?_) h4;show cellD w b _=cellD w b _;congr 1;omega
theorem CallR.place {np d:Nat} {gB:List Nat->Option (List Nat)} {Sall:List Nat} {sg:Sig} {r j off n:Nat} {cs c e:List CT} {sk:Sk} {is:List Nat} {get get' g:Nat->Value} {ra row as':List A}
  (h:CallR κ κi κ' w w' np d (some r) (gGp (pth [] 0 sk is).1 ((pth [] 0 sk is).2+off) n j) gB Sall sg) (hgB:gB=gBp (pth [] 0 sk is).1 ((pth [] 0 sk is).2+off)) (hd:r≠d) (hj:j≠np) (hjf:j≠FB)
  (hroot:RCL κ w cs (r,[]) 0 get ra) (hm:CT.mens [r] cs=false) (he:tagL true cs sk=some e) (hl:lookL ra sk is=some row) (hp:pcell w get sk is=some g)
  (hro:∀S,(∀m,m∈[r]->m∉S)->∀b,okro κ w S b->okro (outC κ κi κ' np d w.heap.size (some r) gB) w' S b/\Same w w' b)
  (hn:n=c.length) (hfit:off+n<=e.length) (hce:CT.unpins ((e.drop off).take n)=CT.unpins c) (hno:CT.noros c=true)
  (hnew:RCL κ' w' c (j,[]) 0 (fun k=>g (off+k)) as') (hget:∀k,k<cs.length->get' k=get k) :
  RCL (outC κ κi κ' np d w.heap.size (some r) gB) w' cs (r,[]) 0 get' (setL ra sk is (splice row off as')):=by
 have hrow:=place_row hroot he hl hp;have hlen':as'.length=n:=by rw [RCL_length hnew,hn]
 have hsub:∀k,k<n->((e.drop off).take n)[k]?=e[off+k]?:=fun k hk=>by rw [List.getElem?_take_of_lt hk,List.getElem?_drop]
 have hS:=mens_allSs (M:=[r]) (P:=fun S=>∀b,okro κ w S b->okro (outC κ κi κ' np d w.heap.size (some r) gB) w' S b/\Same w w' b) (fun S hS b hb=>hro S hS b hb) hm;have hme:=mens_allSs (M:=[r]) (P:=fun S=>∀b,okro κ w S b->okro (outC κ κi κ' np d w.heap.size (some r) gB) w' S b/\Same w w' b) (fun S hS b hb=>hro S hS b hb) (tagL_mens hm he)
 -- the row,new
 have hrow':∀getr:Nat->Value,(∀k,k<e.length->getr ((pth [] 0 sk is).2+k)=g k) ->
   RCL (outC κ κi κ' np d w.heap.size (some r) gB) w' e (r,(pth [] 0 sk is).1) (pth [] 0 sk is).2 getr (splice row off as'):=by
  intro getr hgr;have hrl:=RCL_length hrow;refine RCL_of_nth (by rw [splice_length (by omega)];exact hrl) fun k ck a hc ha => ?_
  rw [splice_nth (by omega)] at ha;have hk:=(List.getElem?_eq_some_iff.1 hc).1;by_cases hin:off<=k/\k<off+n
  ·rw [if_neg (by omega),if_pos (by omega)] at ha;have hout:=sp_out (κ:=κ) (κi:=κi) (w:=w) (d:=d) (np:=np) (r:=r) (base:=(pth [] 0 sk is).2+off) (p:=(pth [] 0 sk is).1) (get':=fun q=>getr q) hj hjf hno (fun i hi=>by
    have:=hgr (off+i) (by omega)
    rw [show (pth [] 0 sk is).2+off+i=(pth [] 0 sk is).2+(off+i) from by omega];exact this) hnew
   rw [<-hgB] at hout;have hout':=RCL_unpin.2 hout;rw [<-hce] at hout';have hout2:=RCL_unpin.1 hout';have hh:=RCL_nth hout2 (k:=k-off) (c:=ck) (a:=a) (by rw [hsub _ (by omega),show off+(k-off)=k from by omega];exact hc) ha;rw [show (pth [] 0 sk is).2+off+(k-off)=(pth [] 0 sk is).2+k from by omega] at hh;exact hh
  ·have ha':row[k]?=some a:=by
    by_cases h1:k<off
    ·rwa [if_pos h1] at ha
    ·rw [if_neg h1,if_neg (by omega)] at ha;exact ha
   have h0:=RCL_nth hrow hc ha';have hg2:getr ((pth [] 0 sk is).2+k)=g ((pth [] 0 sk is).2+k-(pth [] 0 sk is).2):=by rw [hgr k hk];congr 1;omega
   rw [hg2];refine RC_stay (allS_nth hme hc) (fun b q hb => ?_) h0;refine h.old hb (fun _=>gGp_out fun m hm hpre => ?_) (fun hne=>absurd rfl hne) hd;simp only [Pl.at] at hpre;rw [List.append_assoc] at hpre;have h5:=List.IsPrefix.trans hpre (List.prefix_refl _);have h6:=(List.prefix_append_right_inj (pth [] 0 sk is).1).1 h5;obtain ⟨t,ht⟩:=h6;simp at ht;omega
 cases sk with
 | nil=>
  cases is with
  | cons=>simp [lookL] at hl
  | nil=>
   simp only [tagL,Option.some.injEq] at he;simp only [lookL,Option.some.injEq] at hl;simp only [pcell,Option.some.injEq] at hp;subst he hl hp;have:=hrow' get' (fun k hk=>by simpa [pth] using hget k hk);simpa [pth,setL] using this
 | cons s0 sk=>
  obtain ⟨b,o,h1,h2,h3,h4⟩:=foc_own (bo:=none) (by simp) hroot he hl;have hp':=hp;simp only [pcell,Option.map_eq_some_iff] at hp';obtain ⟨BO,h5,hg⟩:=hp';simp only [Nat.zero_add] at h1;rw [h5] at h1;cases h1;obtain ⟨hB1,hB2⟩:=h.old h2 (fun _=>gGp_out fun m hm hpre=>by
   have:=hpre.length_le
   rw [List.length_append,List.length_singleton] at this
   omega) (fun hne=>absurd rfl hne) hd
  have hbs:b<w.heap.size:=by
   apply Nat.lt_of_not_le;intro hle;rw [h.col0 b hle] at h2;cases h2
  have key:=upd_own (κ':=outC κ κi κ' np d w.heap.size (some r) gB) (w':=w') (x':=splice row off as') (bo:=none) (B:=b) (O:=o+(pth [] 0 (s0::sk) is).2) (by simp) hroot he hl (by simpa using h5) hS
   (fun b' q hb hne hnp=>h.old hb (fun _=>gGp_out fun m hm hpre=>hnp (off+m) (by omega) (by rw [<-Nat.add_assoc];exact hpre)) (fun hne=>absurd rfl hne) hd)
   (fun {b} hb=>Nat.lt_of_lt_of_le hb h.fr.size) hB1 (fun o' y _ hy=>hB2.2 o' y hy) (hB2.wrb h3) (fun o' ho'=>by
    have:o'=o:=by omega
    subst this
    refine hrow' _ fun k hk => ?_
    have h6:=hB2.cD (Wrb_rdb h3) (show o'+(pth [] 0 (s0::sk) is).2<=o'+((pth [] 0 (s0::sk) is).2+k) by omega) (by omega)
    rw [h6,<-hg]
    show cellD w b _=cellD w b _
    congr 1;omega)
  exact RCL_get (fun i _ hi=>hget i (by omega)) key
where
 allS_nth {P:List Nat->Prop}:∀{cs:List CT} {k:Nat} {c:CT},CT.allSs P cs->cs[k]?=some c->c.allS P
  | c::cs,0,c',h,hc=>by simp at hc;subst hc;simp only [CT.allSs] at h;exact h.1
  | c::cs,k+1,c',h,hc=>by simp only [CT.allSs] at h;exact allS_nth h.2 (by simpa using hc)
  | [],_,_,_,hc=>by simp at hc
end
end Go.Fw
namespace Go.Fw
def okC (c c':List CT):Bool:=CT.beqs (CT.unpins c) (CT.unpins c')&&CT.noros c&&CT.noros c'&&CT.lives c'
theorem okC_eq {c c':List CT} (h:okC c c'=true):CT.unpins c=CT.unpins c'/\CT.noros c=true/\CT.noros c'=true:=by
 simp only [okC,Bool.and_eq_true] at h;exact ⟨CT.beqs_eq h.1.1.1,h.1.1.2,h.1.2⟩
theorem okC_len {c c':List CT} (h:okC c c'=true):c.length=c'.length:=by
 have:=congrArg List.length (okC_eq h).1;simpa [unpins_length] using this
theorem RCL_okC {κ:Col} {w:World} {c c':List CT} {p:Pl} {j:Nat} {get:Nat->Value} {as:List A} (h:okC c c'=true) (hr:RCL κ w c p j get as):RCL κ w c' p j get as:=by
 have h1:=RCL_unpin.2 hr;rw [(okC_eq h).1] at h1;exact RCL_unpin.1 h1
mutual
def CT.roS:CT->List Nat
 | .d=>[]
 | .sl (.ro S) e=>S++CT.roSs e
 | .sl _ e=>CT.roSs e
def CT.roSs:List CT->List Nat
 | []=>[]
 | c::cs=>c.roS++CT.roSs cs
end
mutual
theorem roS_allS:∀{c:CT} {X:List Nat},(∀m,m∈c.roS->m∈X)->c.allS (fun S=>∀m,m∈S->m∈X)
 | .d,_,_=>by simp [CT.allS]
 | .sl (.ro S) e,X,h=>by
  simp only [CT.roS,List.mem_append] at h;simp only [CT.allS];exact ⟨fun m hm=>h m (.inl hm),roSs_allSs fun m hm=>h m (.inr hm)⟩
 | .sl (.own _) e,X,h=>by
  simp only [CT.roS] at h;simp only [CT.allS];exact roSs_allSs h
 | .sl .dead e,X,h=>by
  simp only [CT.roS] at h;simp only [CT.allS];exact roSs_allSs h
theorem roSs_allSs:∀{cs:List CT} {X:List Nat},(∀m,m∈CT.roSs cs->m∈X)->CT.allSs (fun S=>∀m,m∈S->m∈X) cs
 | [],_,_=>by simp [CT.allSs]
 | c::cs,X,h=>by
  simp only [CT.roSs,List.mem_append] at h;simp only [CT.allSs];exact ⟨roS_allS fun m hm=>h m (.inl hm),roSs_allSs fun m hm=>h m (.inr hm)⟩
end
def okM (c c':List CT):Bool:=CT.beqs (CT.unpins (CT.mapSs (fun _=>[]) c)) (CT.unpins c')&&CT.lives c'&&(CT.srcss (CT.unpins c')).isEmpty&&noPin (CT.unpins c')
inductive SK where
 | no
 | tk (t:Nat)
 | mt (r:Nat) (sk:Sk) (off n t j:Nat)
 | mp (r:Nat) (cr cs:List CT) (j:Nat)
def SK.r0:SK->Option Nat
 | .no=>none
 | .tk t=>some t
 | .mt r _ _ _ _ _=>some r
 | .mp r _ _ _=>some r
def spK (N:Nat) (g:Nat->TT):Option (Nat × PM × Operand)->Option SK
 | none=>some .no
 | some (_,.tk ag cs,.tmp t)=>match g t with
  | .val ag' cs'=>if ag'=ag/\okC cs' cs=true/\t<N then some (.tk t) else none
  | _=>none
 | some (j,.mt ag cs,.tmp t)=>match g t with
  | .val ag' cs'=>if ag'=ag/\okC cs' cs=true/\CT.mens [t] cs'=false/\t<N then some (.mt t [] 0 cs.length t j) else none
  | .alias ag' ca r sk off _=>match (g r).cts with
   | some cr=>match tagL true cr sk with
    | some e=>if ag'=ag/\ca.length=cs.length/\off+cs.length<=e.length/\okC ((e.drop off).take cs.length) cs=true/\CT.mens [r] cr=false/\r<N then some (.mt r sk off cs.length t j) else none
    | none=>none
   | none=>none
  | _=>none
 | some (j,.mp cs,.tmp t)=>match g t with
  | .ptr r [] 0 _=>match g r with
   | .box cr=>if okM cr cs=true/\r<N then some (.mp r cr cs j) else none
   | _=>none
  | .box cr=>if okM cr cs=true/\t<N then some (.mp t cr cs j) else none
  | _=>none
 | _=>none
def getI (t:Nat) (s:Nat->AV):Option (List Nat):=
 match s t with
 | .v _ is=>some is
 | _=>none
def SK.post (rs:RS) (res:List A) (outs:List (List A)) (s:Nat->AV):SK->Option (List AV)
 | .no=>some [resAV res rs]
 | .tk _=>some [resAV res rs]
 | .mt r sk off _ t j=>match getI t s,getA r s,outs[j]? with
  | some is,some ra,some o=>match lookL ra sk is with
   | some row=>some [resAV res rs,.v (setL ra sk is (splice row off o)) []]
   | none=>none
  | _,_,_=>none
 | .mp _ _ _ j=>match outs[j]? with
  | some o=>some [resAV res rs,.v o []]
  | none=>none
def SK.all (S:List Nat):SK->List Nat
 | .mp _ cr _ _=>S++CT.roSs cr
 | _=>S
def SK.up (g:Nat->TT) (S:List Nat):SK->List (Nat × TT)
 | .no=>[]
 | .tk t=>[(t,.dead)]
 | .mt r _ _ _ _ _=>[(r,g r)]
 | .mp r cr cs _=>[(r,.box (CT.mapSs (fun _=>S++CT.roSs cr) (CT.unpins cs)))]
def SK.kl (d:Nat):SK->TT->TT
 | .no=>fun T=>T.kill [d] []
 | .tk t=>fun T=>T.kill [d,t] [t]
 | .mt r _ _ _ _ _=>fun T=>T.killS r [d,r] [r]
 | .mp r _ _ _=>fun T=>T.killS r [d,r] [r]
def SK.rd:SK->List Nat
 | .no=>[]
 | .tk t=>[t]
 | .mt r _ _ _ t _=>[r,t]
 | .mp r _ _ _=>[r]
def stpCall (P:Program) (sigs:FuncId->Option Sig) (N:Nat) (g:Nat->TT) (o:Oper):Option Stp:=
 match o.dst,o.op with
 | some d,.call c=>match c.callee with
  | .value (.func K)=>match P.funcs[K]?,sigs K with
   | some fn,some sg=>match argsX P g 0 sg.ps c.args.toList fn.params.toList with
    | some Y=>match spK N g Y.sp with
     | some k=>
      if d < N ∧ (fn.name == "runtime.NumGoroutine") = false ∧ fn.body.isNone = false ∧ (∀ r, k.r0 = some r → r ∉ k.all Y.S ∧ r ≠ d ∧ r ∉ Y.B) ∧ resOk sg (k.all Y.S) = true ∧ sg.ps.length < FB then
       some ⟨(d,resTag (k.all Y.S) sg.res)::k.up g Y.S,k.kl d,Y.rd++k.rd,.call K sg (fun s=>getsL s Y.gets) fun res outs s=>k.post sg.res res outs s⟩
      else none
     | none=>none
    | none=>none
   | _,_=>none
  | _=>none
 | _,_=>none
theorem exec_call {P:Program} {o:Oper} {a:Act} {w:World} {K:FuncId} {fn:Func} {args:Array Operand} {ats:Array TypeId} (ho:o.op = .call { callee:=.value (.func K),args,argTypes:=ats })
  (hf : P.funcs[K]? = some fn) (hn : (fn.name == "runtime.NumGoroutine") = false) (hb : fn.body.isNone = false) : (execOp a.eval o).run P w = .ok (.enter K (args.map a.eval)) w := by
 unfold execOp;rw [ho];show ((do let d <-Deferred.ofValue (a.eval (.func K)) (args.map a.eval);invoke d.target d.args):Sem Next).run P w=_;have h1:(Deferred.ofValue (a.eval (.func K)) (args.map a.eval)).run P w = .ok { target:=.fn (.func K) #[],args := #[]++args.map a.eval } w:=rfl;rw [run_ok h1];show (callFunc K ((#[]++args.map a.eval) ++ #[])).run P w=_;unfold callFunc;have h2:(program:Sem Program).run P w = .ok P w:=rfl;rw [run_ok h2];simp only [hf,hn,hb,Bool.false_eq_true,if_false,Array.empty_append,Array.append_empty];rfl
section
variable {P:Program} {κ:Col} {w:World} {o:Oper} {a:Act} {next:Act->World->Prop} {Q:Exit->Act->World->Prop}
theorem call_run {K:FuncId} {args:Array Operand} {sg:Sig} {ass:List (List A)} {res:List A} {outs:List (List A)} {r0:Option Nat} {gG:List Nat->Option Pl} {gB:List Nat->Option (List Nat)} {Sall:List Nat} {d:Nat}
  (hex:(execOp a.eval o).run P w = .ok (.enter K (args.map a.eval)) w) (hgood:Good P K sg ass res outs) (hcol:∀b,w.heap.size<=b->κ b=none)
  (hxl:args.toList.length=sg.ps.length) (hal:ass.length=sg.ps.length) (hnp:sg.ps.length<FB)
  (hG:∀q p,r0≠none->gG q=some p->∃pm,sg.ps[p.1]?=some pm/\pm.mut=true)
  (hargs:∀k pm x as,sg.ps[k]?=some pm->(args.toList.map a.eval)[k]?=some x->ass[k]?=some as->ArgR (inC κ r0 gG Sall) w k x as pm)
  (k:∀v κ' w',CallR κ (inC κ r0 gG Sall) κ' w w' sg.ps.length d r0 gG gB Sall sg->ResR κ' w' sg.ps.length v res sg.res ->
   (∀i pm x as,sg.ps[i]?=some pm->(args.toList.map a.eval)[i]?=some x->outs[i]?=some as->OutR κ' w' i x as pm)->next (a.put o.dst v) w'):o.wp P a w next Q:=by
 unfold Oper.wp;rw [hex,Oper.upon_enter];have hmine:Mine sg (inC κ r0 gG Sall):=by
  intro b r q hb;unfold inC at hb;cases hk:κ b with
  | none=>simp [hk] at hb
  | some p=>
   obtain ⟨r',q'⟩:=p;simp only [hk] at hb;split at hb
   ·rename_i he;split at hb
    ·rename_i p hp;cases hb;exact .inr (hG q' _ (by rw [<-he];simp) hp)
    ·cases hb;exact .inl rfl
   ·split at hb
    ·cases hb
    ·cases hb;exact .inl rfl
 have:=hgood (inC κ r0 gG Sall) w (args.toList.map a.eval) (fun b hb=>by unfold inC;rw [hcol b hb]) hmine (by simpa using hxl) hal hargs;have hcv:(args.toList.map a.eval).toArray=args.map a.eval:=by rw [<-Array.toList_map]
 rw [hcv] at this;refine Calls.mono this fun e w' he => ?_
 obtain ⟨v,κ',rfl,hp⟩:=he;exact k v κ' w' ⟨rfl,hcol,hp.col,hp.fr,hp.fb,hp.mine,rfl,hnp⟩ hp.res hp.outs
end
end Go.Fw
namespace Go.Fw
section
variable {P:Program} {ac:Nat->Nat->Value} {κ0 κ:Col} {w0 w:World} {N:Nat} {tg g:Nat->TT} {sv s:Nat->AV} {a:Act}
theorem whole_in (h:R ac κ0 w0 κ w N tg sv (gm a)) {t j:Nat} {ag:Bool} {cs cs':List CT} (ht:tg t = .val ag cs') (hok:okC cs' cs=true) {as:List A} {is:List Nat} (hs:sv t = .v as is) {Sall:List Nat} {pm:PM}
  (hpm:pm = .tk ag cs\/pm = .mt ag cs):ArgR (inC κ (some t) (gGp [] 0 cs.length j) Sall) w j (gm a t) as pm:=by
 have h1:=h.tr t;rw [ht] at h1;simp only [TR] at h1;obtain ⟨as',vs,g1,g2,g3,_,g5⟩:=h1;rw [hs] at g1;cases g1;have:=sp_in (κ:=κ) (w:=w) (Sall:=Sall) (j:=j) (n:=cs.length) (get':=fun k=>vs.getD k undef) rfl (okC_eq hok).2.2 (fun i _=>by simp) (RCL_okC hok g5);rcases hpm with rfl|rfl
 ·exact ⟨vs,g2,by rw [g3,okC_len hok],this⟩
 ·exact ⟨vs,g2,by rw [g3,okC_len hok],this⟩
theorem part_in (h:R ac κ0 w0 κ w N tg sv (gm a)) {t r j off:Nat} {sk:Sk} {S0:List Nat} {ag:Bool} {ca cs cr e:List CT} (ht:tg t = .alias ag ca r sk off S0) (hr:(tg r).cts=some cr) (he:tagL true cr sk=some e)
  (hl:ca.length=cs.length) (hfit:off+cs.length<=e.length) (hok:okC ((e.drop off).take cs.length) cs=true) {as:List A} {is:List Nat} (hs:sv t = .v as is) {Sall:List Nat} :
  ArgR (inC κ (some r) (gGp (pth [] 0 sk is).1 ((pth [] 0 sk is).2+off) cs.length j) Sall) w j (gm a t) as (.mt ag cs):=by
 have h1:=h.tr t;rw [ht] at h1;simp only [TR] at h1;obtain ⟨as',is',vs,gf,ra,row,g1,g2,g3,gl,g4,g5,g6,g7,g8,g9,g10,g11,g12⟩:=h1;rw [hs] at g1;cases g1;have hroot:=h.root hr g10;have hrow:=place_row hroot he g11 g5;have h2:=RCL_take cs.length (RCL_drop off hrow);rw [hl] at g12 g3;rw [<-g12] at h2;have h3:=RCL_okC hok h2;exact ⟨vs,g2,g3,sp_in rfl (okC_eq hok).2.2 (fun i hi=>by
  show vs.getD i undef=gf ((pth [] 0 sk is).2+off+i-(pth [] 0 sk is).2)
  rw [show (pth [] 0 sk is).2+off+i-(pth [] 0 sk is).2=off+i from by omega]
  exact (g9 i (by omega)).1.symm) h3⟩
theorem box_in (h:R ac κ0 w0 κ w N tg sv (gm a)) {r j:Nat} {cr cs:List CT} (hr:tg r = .box cr) (hok:okM cr cs=true) {as:List A} {is:List Nat} (hs:sv r = .v as is) {Sall:List Nat} (hrS:r∉Sall) (hS:∀m,m∈CT.roSs cr->m∈Sall) {x:Value} (hx:x=gm a r) :
  ArgR (inC κ (some r) (fun q=>some (j,q)) Sall) w j x as (.mp cs):=by
 have h1:=h.tr r;rw [hr] at h1;simp only [TR] at h1;obtain ⟨as',b,g1,g2,g3,g4,g5,g6,g7⟩:=h1;rw [hs] at g1;cases g1;subst hx;simp only [okM,Bool.and_eq_true] at hok;have heq:=CT.beqs_eq hok.1.1.1;have hl:cr.length=cs.length:=by
  have:=congrArg List.length heq;simpa [unpins_length,mapSs_length] using this
 refine ⟨b,g2,g3,?_,by rw [<-hl];exact g5,?_⟩
 ·unfold inC;rw [g4];simp
 ·have:=RCL_moves (f:=fun _=>[]) (P:=fun S=>∀m,m∈S->m∈Sall) (κ:=κ) (w:=w) (κ':=inC κ (some r) (fun q=>some (j,q)) Sall) (w':=w) (p':=(j,[])) (j':=0) (get':=cellD w b) (fun S hS b' hb=>⟨⟨hb.1,fun r' q hq => ?_⟩,Same.refl w b'⟩) (roSs_allSs hS) (fun i hi b' q hb=>⟨?_,Same.refl w b'⟩) (fun i hi=>rfl) g7
  ·have h2:=RCL_unpin.2 this;rw [heq] at h2;exact RCL_unpin.1 h2
  ·exfalso;unfold inC at hq;cases hk:κ b' with
   | none=>simp [hk] at hq
   | some p=>
    obtain ⟨r2,q2⟩:=p;obtain ⟨h3,h4⟩:=hb.2 _ _ hk;have h5:=hS _ h3;have h6:r2≠r:=by rintro rfl;exact hrS h5
    simp [hk,h6,h5,h4] at hq
  ·unfold inC;rw [hb];simp
theorem call_R (h:R ac κ0 w0 κ w N tg sv (gm a)) {κ':Col} {w':World} {np d:Nat} {r0:Option Nat} {gG:List Nat->Option Pl} {gB:List Nat->Option (List Nat)} {Sall:List Nat} {sg:Sig} (hc:CallR κ (inC κ r0 gG Sall) κ' w w' np d r0 gG gB Sall sg)
  (hd:d<N) (hr0:∀r,r0=some r->r<N/\r≠d) {v:Value} {tg':Nat->TT} {sv':Nat->AV}
  (htg:∀r,r≠d->some r≠r0->tg' r=(tg r).kill (d::r0.toList) r0.toList) (hsv:∀r,r≠d->some r≠r0->sv' r=sv r)
  (hTd:TR ac (outC κ (inC κ r0 gG Sall) κ' np d w.heap.size r0 gB) w' tg' sv' (upd (gm a) d v) d (tg' d))
  (hT0:∀r,r0=some r->TR ac (outC κ (inC κ r0 gG Sall) κ' np d w.heap.size r0 gB) w' tg' sv' (upd (gm a) d v) r (tg' r)) :
  R ac κ0 w0 (outC κ (inC κ r0 gG Sall) κ' np d w.heap.size r0 gB) w' N tg' sv' (upd (gm a) d v):=by
 have h1:=hc.npe;have h2:=hc.npf;refine R_call h hd (fun r hr=>(hr0 r hr).1) rfl (by omega) hc.col hc.fr hc.fb (fun b q hb => ?_) htg hsv (fun r hr _=>upd_ne _ _ _ hr) hTd (fun r hr _=>hT0 r hr);rcases hc.mine b FB q hb with ⟨_,h3⟩|h3|⟨pm,h3,_⟩
 ·exact h3
 ·omega
 ·have:=(List.getElem?_eq_some_iff.1 h3).1;omega
theorem hro_call (h:R ac κ0 w0 κ w N tg sv (gm a)) {κ':Col} {w':World} {np d r:Nat} {gG:List Nat->Option Pl} {gB:List Nat->Option (List Nat)} {Sall:List Nat} {sg:Sig} (hc:CallR κ (inC κ (some r) gG Sall) κ' w w' np d (some r) gG gB Sall sg) :
  ∀S,(∀m,m∈[r]->m∉S)->∀b,okro κ w S b->okro (outC κ (inC κ (some r) gG Sall) κ' np d w.heap.size (some r) gB) w' S b/\Same w w' b:=by
 intro S hS b hb;have hne:∀r' q,κ b=some (r',q)->r'≠r:=fun r' q hk he=>hS r (by simp) (by rw [<-he];exact (hb.2 r' q hk).1)
 have hi:inC κ (some r) gG Sall b=none\/inC κ (some r) gG Sall b=some (FB,[0]):=by
  unfold inC;cases hk:κ b with
  | none=>exact .inl rfl
  | some p=>
   obtain ⟨r',q⟩:=p;simp only;rw [if_neg (fun he=>hne r' q hk (by simpa using he))];split
   ·exact .inl rfl
   ·exact .inr rfl
 have hnpf:=hc.npf;have clr:∀r' q,(κ b).bind (clrF d)=some (r',q)->r'∈S/\q≠[]:=by
  intro r' q hk;cases hκ:κ b with
  | none=>simp [hκ] at hk
  | some p=>
   simp only [hκ,Option.bind_some,clrF] at hk;split at hk
   ·cases hk
   ·cases hk;exact hb.2 _ _ hκ
 rcases hi with hi|hi
 ·have hk:=hc.fr.kept b hb.1 hi;refine ⟨⟨Nat.lt_of_lt_of_le hb.1 hc.fr.size,fun r' q ho => ?_⟩,heap_same (fun _=>Nat.lt_of_lt_of_le hb.1 hc.fr.size) hk.2⟩;unfold outC at ho;rw [hk.1] at ho;simp only at ho;rw [if_pos ⟨hi,hb.1⟩] at ho;exact clr r' q ho
 ·have hk:=hc.fb b _ hi;refine ⟨⟨hk.2.1 hb.1,fun r' q ho => ?_⟩,hk.2⟩;unfold outC at ho;rw [hk.1] at ho;simp only at ho;rw [if_neg (by omega),if_pos trivial] at ho;exact clr r' q ho
end
end Go.Fw
namespace Go.Fw
theorem noPin_mapSs {f:List Nat->List Nat}:∀{cs:List CT},noPin cs=true->noPin (CT.mapSs f cs)=true
 | [],_=>by simp [CT.mapSs,noPin]
 | c::cs,h=>by
  simp only [noPin,List.all_cons,Bool.and_eq_true] at h;have ih:=noPin_mapSs (f:=f) (cs:=cs) (by simpa [noPin] using h.2);simp only [CT.mapSs,noPin,List.all_cons,Bool.and_eq_true];refine ⟨?_,by simpa [noPin] using ih⟩;cases c with
  | d=>simp [CT.mapS]
  | sl m e=>
   cases m with
   | own p=>
    cases p with
    | none=>simp [CT.mapS]
    | some _=>have:=h.1;simp at this
   | _=>simp [CT.mapS]
section
variable {P:Program} {ac:Nat->Nat->Value} {κ0 κ:Col} {w0 w:World} {N:Nat} {tg g:Nat->TT} {sv s:Nat->AV} {a:Act}
theorem root_after (h:R ac κ0 w0 κ w N tg sv (gm a)) {κ':Col} {w':World} {np d r j off n:Nat} {sk:Sk} {is:List Nat} {c cr e:List CT} {g0:Nat->Value} {ra row as':List A} {Sall:List Nat} {sg:Sig}
  (hc:CallR κ (inC κ (some r) (gGp (pth [] 0 sk is).1 ((pth [] 0 sk is).2+off) n j) Sall) κ' w w' np d (some r) (gGp (pth [] 0 sk is).1 ((pth [] 0 sk is).2+off) n j) (gBp (pth [] 0 sk is).1 ((pth [] 0 sk is).2+off)) Sall sg)
  (hd:r≠d) (hj:j<np) (hr:(tg r).cts=some cr) (hm:CT.mens [r] cr=false) (he:tagL true cr sk=some e) (hsr:sv r = .v ra []) (hl:lookL ra sk is=some row) (hp:pcell w (rg w (tg r) (gm a r)) sk is=some g0)
  (hn:n=c.length) (hfit:off+n<=e.length) (hce:CT.unpins ((e.drop off).take n)=CT.unpins c) (hno:CT.noros c=true) (hnew:RCL κ' w' c (j,[]) 0 (fun k=>g0 (off+k)) as')
  {tg':Nat->TT} {sv':Nat->AV} {tm':Nat->Value} (htg:tg' r=tg r) (hsv:sv' r = .v (setL ra sk is (splice row off as')) []) (htm:tm' r=gm a r) :
  TR ac (outC κ (inC κ (some r) (gGp (pth [] 0 sk is).1 ((pth [] 0 sk is).2+off) n j) Sall) κ' np d w.heap.size (some r) (gBp (pth [] 0 sk is).1 ((pth [] 0 sk is).2+off))) w' tg' sv' tm' r (tg r):=by
 have hroot:=h.root hr hsr;have h1:=hc.npf;have hpl:=fun (get':Nat->Value) hget=>hc.place (get':=get') rfl hd (by omega) (by omega) hroot hm he hl hp (hro_call h hc) hn hfit hce hno hnew hget
 have hk:=h.tr r;cases hT:tg r with
 | dead=>rw [hT] at hr;simp [TT.cts] at hr
 | alias=>rw [hT] at hr;simp [TT.cts] at hr
 | ptr=>rw [hT] at hr;simp [TT.cts] at hr
 | tup=>rw [hT] at hr;simp [TT.cts] at hr
 | val ag cs=>
  rw [hT] at hk hr hpl;simp only [TT.cts,Option.some.injEq] at hr;subst hr;simp only [TR] at hk;obtain ⟨as,vs,g1,g2,g3,g4,g5⟩:=hk;simp only [TR,hsv,htm];refine ⟨_,vs,rfl,g2,g3,g4,hpl _ fun k _ => ?_⟩;simp [rg,g2]
 | box cs=>
  rw [hT] at hk hr hpl;simp only [TT.cts,Option.some.injEq] at hr;subst hr;simp only [TR] at hk;obtain ⟨as,b,g1,g2,g3,g4,g5,g6,g7⟩:=hk;obtain ⟨e1,e2⟩:=hc.old g4 (fun _=>gGp_out fun m hm hpre=>by
   have:=hpre.length_le
   rw [List.length_append,List.length_singleton,List.length_nil] at this
   omega) (fun hne=>absurd rfl hne) hd
  have hcell:∀k,k<cs.length->cellD w' b k=cellD w b k:=fun k hk=>e2.cD (Wrb_rdb g5) (Nat.zero_le _) hk
  simp only [TR,hsv,htm];refine ⟨_,b,rfl,g2,e2.1 g3,by rw [e1];exact g4,e2.wrb g5,fun k j' c' e' hc' => ?_,hpl _ fun k hk => ?_⟩
  ·have:=(List.getElem?_eq_some_iff.1 hc').1;rw [hcell k this];exact g6 k j' c' e' hc'
  ·rw [hcell k hk];simp [rg,g2]
end
inductive SpC (N:Nat) (g:Nat->TT):Option (Nat × PM × Operand)->SK->Prop
 | no:SpC N g none .no
 | tk {j t:Nat} {ag:Bool} {cs cs':List CT} (ht:g t = .val ag cs') (hok:okC cs' cs=true) (htN:t<N):SpC N g (some (j,.tk ag cs,.tmp t)) (.tk t)
 | mv {j t:Nat} {ag:Bool} {cs cs':List CT} (ht:g t = .val ag cs') (hok:okC cs' cs=true) (hm:CT.mens [t] cs'=false) (htN:t<N):SpC N g (some (j,.mt ag cs,.tmp t)) (.mt t [] 0 cs.length t j)
 | ma {j t r off:Nat} {ag:Bool} {cs ca cr e:List CT} {sk:Sk} {S:List Nat} (ht:g t = .alias ag ca r sk off S) (hr:(g r).cts=some cr) (he:tagL true cr sk=some e) (hl:ca.length=cs.length) (hfit:off+cs.length<=e.length)
   (hok:okC ((e.drop off).take cs.length) cs=true) (hm:CT.mens [r] cr=false) (hrN:r<N):SpC N g (some (j,.mt ag cs,.tmp t)) (.mt r sk off cs.length t j)
 | mp {j t r:Nat} {cs cr:List CT} (hr:g r = .box cr) (hok:okM cr cs=true) (hrN:r<N) (ht:t=r\/∃S,g t = .ptr r [] 0 S):SpC N g (some (j,.mp cs,.tmp t)) (.mp r cr cs j)
theorem spK_cases {N:Nat} {g:Nat->TT} {sp:Option (Nat × PM × Operand)} {k:SK} (h:spK N g sp=some k):SpC N g sp k:=by
 unfold spK at h;split at h
 ·cases h;exact .no
 ·split at h
  ·rename_i ag cs t ag' cs' hT;split at h
   ·rename_i hc;cases h;obtain ⟨rfl,h1,h2⟩:=hc;exact .tk hT h1 h2
   ·cases h
  ·cases h
 ·split at h
  ·rename_i ag' cs' hT;split at h
   ·rename_i hc;cases h;obtain ⟨rfl,h1,h2,h3⟩:=hc;exact .mv hT h1 h2 h3
   ·cases h
  ·rename_i ag' ca r sk off S0 hT;split at h
   ·rename_i cr hr;split at h
    ·rename_i e he;split at h
     ·rename_i hc;cases h;obtain ⟨rfl,h1,h2,h3,h4,h5⟩:=hc;exact .ma hT hr he h1 h2 h3 h4 h5
     ·cases h
    ·cases h
   ·cases h
  ·cases h
 ·split at h
  ·rename_i r S0 hT;split at h
   ·rename_i cr hr;split at h
    ·rename_i hc;cases h;exact .mp hr hc.1 hc.2 (.inr ⟨_,hT⟩)
    ·cases h
   ·cases h
  ·rename_i cr hT;split at h
   ·rename_i hc;cases h;exact .mp hT hc.1 hc.2 (.inl rfl)
   ·cases h
  ·cases h
 ·cases h
theorem stpCall_ok {P:Program} {sigs:FuncId->Option Sig} {N:Nat} {g:Nat->TT} {o:Oper} {S:Stp} (h:stpCall P sigs N g o=some S):StpOk P N o g S:=by
 unfold stpCall at h;split at h;case h_2=>cases h
 case h_1 d c hd ho=>
 obtain ⟨callee,args,ats⟩:=c;simp only at h;split at h;case h_2=>cases h
 case h_1 _ K=>
 split at h;case h_2=>cases h
 case h_1 fn sg hf hsg=>
 split at h;case h_2=>cases h
 case h_1 Y hY=>
 split at h;case h_2=>cases h
 case h_1 k hk=>
 split at h;case isFalse=>cases h
 case isTrue hc=>
 obtain ⟨hdN,hname,hbody,hr0,hres,hnp⟩:=hc;cases h;intro ac κ0 κ w0 w tg sv s a v next Q hN hR hL hv hcont;simp only [Eff.rel] at hv;obtain ⟨ass,res,outs,hass,hgood,hpost⟩:=hv;have hex:=exec_call (a:=a) (w:=w) ho hf hname hbody;have hsp:=spK_cases hk;generalize hspe:Y.sp=sp at hsp;cases hsp with
 | no=>
  have hspn:=hspe;obtain ⟨k1,k2,k3,_,_⟩:=argsX_ok (r0:=none) (gG:=fun _=>none) (Sall:=Y.S) hR hL (fun r hr=>by cases hr) hY hass (fun r hr=>hr) (fun r hr=>by cases hr) (fun j pm x f rd as hj=>by rw [hspn] at hj;cases hj);simp only [SK.post,Option.some.injEq] at hpost;subst hpost;refine call_run (d:=d) (gB:=fun _=>none) hex hgood hR.col k1 k2 hnp (fun q p hne=>absurd rfl hne) (fun k pm x as h1 h2 h3=>by simpa using k3 k pm x as h1 h2 h3) fun vv κ' w' hcr hrs _ => ?_
  have hR':=call_R hR hcr hdN (fun r hr=>by cases hr) (v:=vv) (tg':=upds (fun t=>(tg t).kill [d] []) [(d,resTag Y.S sg.res)]) (sv':=upds sv [(d,resAV res sg.res)])
   (fun r hr _=>by simp [upds,hr]) (fun r hr _=>by simp [upds,hr]) (by
    have:=hcr.tr (ac:=ac) hres hrs (upds (fun t=>(tg t).kill [d] []) [(d,resTag Y.S sg.res)]) (upds sv [(d,resAV res sg.res)]) (upd (gm a) d vv) (by simp [upds]) (by simp [upd])
    simpa [upds] using this) (fun r hr=>by cases hr)
  refine hcont vv w' _ _ _ (by rw [hd,gm_put (a:=a) (by rw [hN];exact hdN)];exact hR') (fun t=>rfl) (fun t=>rfl)
 | @tk j t ag cs cs' hT hok htN=>
  obtain ⟨e1,e2⟩:=hL.at hT (by simp);have hr0':∀r,some t=some r->r∉Y.S:=fun r hr=>(hr0 r (by simpa [SK.r0] using hr)).1
  have hrB:∀r,some t=some r->r∉Y.B:=fun r hu0=>(hr0 r (by simpa [SK.r0] using hu0)).2.2
  obtain ⟨k1,k2,k3,k4,_⟩:=argsX_ok (r0:=some t) (gG:=gGp [] 0 cs.length j) (Sall:=Y.S) hR hL hr0' hY hass (fun r hr=>hr) hrB (fun j' pm x f rd as hj hf' hfs=>by
   rw [hspe] at hj
   simp only [Option.some.injEq,Prod.mk.injEq] at hj
   obtain ⟨rfl,rfl,rfl⟩:=hj
   simp only [spGet,Option.some.injEq,Prod.mk.injEq] at hf'
   obtain ⟨rfl,_⟩:=hf'
   obtain ⟨is,hs⟩:=getA_some hfs
   exact whole_in hR e1 hok (by rw [e2,hs]) (.inl rfl))
  obtain ⟨_,hpj,hmj,_,_⟩:=k4 _ _ _ hspe;simp only [SK.post,Option.some.injEq] at hpost;subst hpost;refine call_run (d:=d) (gB:=fun _=>none) hex hgood hR.col k1 k2 hnp (fun q p _ hp => ?_) (fun k pm x as h1 h2 h3=>by simpa using k3 k pm x as h1 h2 h3) fun vv κ' w' hcr hrs _ => ?_
  ·have:p.1=j:=by
    unfold gGp at hp;repeat' split at hp
    all_goals first
     | cases hp;rfl
     | cases hp
   exact ⟨_,by rw [this];simpa using hpj,hmj⟩
  ·have htd:t≠d:=(hr0 t rfl).2.1;have hR':=call_R hR hcr hdN (fun r hr=>by cases hr;exact ⟨htN,htd⟩) (v:=vv) (tg':=upds (fun u=>(tg u).kill [d,t] [t]) [(d,resTag Y.S sg.res),(t,.dead)]) (sv':=upds sv [(d,resAV res sg.res)])
    (fun r hr hne=>by
     have hrt:r≠t:=fun he=>hne (by rw [he])
     simp only [upds,if_neg hr,if_neg hrt];rfl) (fun r hr _=>by simp [upds,hr]) (by
     have:=hcr.tr (ac:=ac) hres hrs (upds (fun u=>(tg u).kill [d,t] [t]) [(d,resTag Y.S sg.res),(t,.dead)]) (upds sv [(d,resAV res sg.res)]) (upd (gm a) d vv) (by simp [upds]) (by simp [upd])
     simpa [upds] using this) (fun r hr=>by cases hr;simp [upds,htd,TR])
   exact hcont vv w' _ _ _ (by rw [hd,gm_put (a:=a) (by rw [hN];exact hdN)];exact hR') (fun t=>rfl) (fun t=>rfl)
 | @mv j t ag cs cs' hT hok hm htN=>
  obtain ⟨e1,e2⟩:=hL.at hT (by simp);have hr0':∀r,some t=some r->r∉Y.S:=fun r hr=>(hr0 r (by simpa [SK.r0] using hr)).1
  have hrB:∀r,some t=some r->r∉Y.B:=fun r hu0=>(hr0 r (by simpa [SK.r0] using hu0)).2.2
  simp only [SK.post] at hpost;split at hpost;case h_2=>cases hpost
  case h_1 is ra oo his hra hoo=>
  split at hpost;case h_2=>cases hpost
  case h_1 row hrow=>
  cases hpost;have h1:=hR.tr t;rw [e1] at h1;simp only [TR] at h1;obtain ⟨as0,vs,g1,g2,g3,g4,g5⟩:=h1;obtain ⟨is2,hs2⟩:=getA_some hra;rw [e2,hs2] at g1;cases g1;have his':is=[]:=by simp only [getI,hs2,Option.some.injEq] at his;exact his.symm
  subst his';have hsr:sv t = .v ra []:=by rw [e2,hs2]
  obtain ⟨k1,k2,k3,k4,_⟩:=argsX_ok (r0:=some t) (gG:=gGp (pth [] 0 [] []).1 ((pth [] 0 [] []).2+0) cs.length j) (Sall:=Y.S) hR hL hr0' hY hass (fun r hr=>hr) hrB (fun j' pm x f rd as hj hf' hfs=>by
   rw [hspe] at hj
   simp only [Option.some.injEq,Prod.mk.injEq] at hj
   obtain ⟨rfl,rfl,rfl⟩:=hj
   simp only [spGet,Option.some.injEq,Prod.mk.injEq] at hf'
   obtain ⟨rfl,_⟩:=hf'
   obtain ⟨is,hs⟩:=getA_some hfs
   exact whole_in hR e1 hok (by rw [e2,hs]) (.inr rfl))
  obtain ⟨_,hpj,hmj,hxj,_⟩:=k4 _ _ _ hspe;refine call_run (d:=d) (gB:=gBp (pth [] 0 [] []).1 ((pth [] 0 [] []).2+0)) hex hgood hR.col k1 k2 hnp (fun q p _ hp => ?_) (fun k pm x as h1 h2 h3=>by simpa using k3 k pm x as h1 h2 h3) fun vv κ' w' hcr hrs houts => ?_
  ·have:p.1=j:=by
    unfold gGp at hp;repeat' split at hp
    all_goals first
     | cases hp;rfl
     | cases hp
   exact ⟨_,by rw [this];simpa using hpj,hmj⟩
  ·have htd:t≠d:=(hr0 t rfl).2.1;have hjlt:j<sg.ps.length:=by have:=(List.getElem?_eq_some_iff.1 hpj).1;omega
   have hout:=houts j (.mt ag cs) (gm a t) oo (by simpa using hpj) (by
    rw [List.getElem?_map];simp only [Nat.sub_zero] at hxj;rw [hxj];rfl) hoo
   obtain ⟨vs',o1,o2,o3⟩:=hout;rw [g2] at o1;cases o1;have hroot:=root_after (c:=cs) (e:=cs') (g0:=rg w (tg t) (gm a t)) (as':=oo) (row:=row) (off:=0) hR hcr htd hjlt (by rw [e1];rfl) hm (by simp [tagL]) hsr hrow (by simp [pcell]) rfl (by rw [okC_len hok];omega) (by
    rw [List.drop_zero,<-okC_len hok,List.take_length];exact (okC_eq hok).1) (okC_eq hok).2.2 (by
    refine RCL_get (fun i _ _ => ?_) o3
    simp [rg,e1,g2]) (tg':=upds (fun u=>(tg u).kill [d,t] [t]) [(d,resTag Y.S sg.res),(t,g t)]) (sv':=upds sv [(d,resAV res sg.res),(t,.v (setL ra [] [] (splice row 0 oo)) [])]) (tm':=upd (gm a) d vv)
    (by simp [upds,htd,e1,hT]) (by simp [upds,htd]) (by simp [upd,htd])
   have hR':=call_R hR hcr hdN (fun r hr=>by cases hr;exact ⟨htN,htd⟩) (v:=vv) (tg':=upds (fun u=>(tg u).kill [d,t] [t]) [(d,resTag Y.S sg.res),(t,g t)]) (sv':=upds sv [(d,resAV res sg.res),(t,.v (setL ra [] [] (splice row 0 oo)) [])])
    (fun r hr hne=>by
     have hrt:r≠t:=fun he=>hne (by rw [he])
     simp only [upds,if_neg hr,if_neg hrt];rfl) (fun r hr hne=>by
     have hrt:r≠t:=fun he=>hne (by rw [he])
     simp only [upds,if_neg hr,if_neg hrt]) (by
     have:=hcr.tr (ac:=ac) hres hrs (upds (fun u=>(tg u).kill [d,t] [t]) [(d,resTag Y.S sg.res),(t,g t)]) (upds sv [(d,resAV res sg.res),(t,.v (setL ra [] [] (splice row 0 oo)) [])]) (upd (gm a) d vv) (by simp [upds]) (by simp [upd])
     simpa [upds] using this) (fun r hr=>by
     cases hr
     have:upds (fun u=>(tg u).kill [d,t] [t]) [(d,resTag Y.S sg.res),(t,g t)] t=tg t:=by simp [upds,htd,e1,hT]
     rw [this];exact hroot)
   have hR2:=R_reS (tg2:=upds (fun u=>(tg u).killS t [d,t] [t]) [(d,resTag Y.S sg.res),(t,g t)]) hR hR' (r:=t) (mods:=[d,t]) (M:=[t]) (X:=[d,t]) (by simp) (fun u hu=>by
    simp only [List.mem_cons,List.not_mem_nil,or_false,not_or] at hu
    simp [upds,upd,hu.1,hu.2]) (fun u hu=>by
    simp only [List.mem_cons,List.not_mem_nil,or_false] at hu
    rcases hu with rfl|rfl
    ·simp [upds]
    ·simp [upds,htd]) (fun hb=>by obtain ⟨cb,hb⟩:=hb;rw [e1] at hb;cases hb)
   exact hcont vv w' _ _ _ (by rw [hd,gm_put (a:=a) (by rw [hN];exact hdN)];exact hR2) (fun t=>rfl) (fun t=>rfl)
 | @ma j t r off ag cs ca cr e sk S0 hT hr he hl hfit hok hm hrN=>
  obtain ⟨e1,e2⟩:=hL.at hT (by simp);obtain ⟨hr',er2⟩:=cts_ok hL hr;have egr:tg r=g r:=by
   have hne:g r≠.dead:=fun hg=>by rw [hg] at hr;simp [TT.cts] at hr
   exact (hL.at rfl hne).1
  have hr0':∀u,some r=some u->u∉Y.S:=fun u hu=>(hr0 u (by simpa [SK.r0] using hu)).1
  have hrB:∀u,some r=some u->u∉Y.B:=fun u hu0=>(hr0 u (by simpa [SK.r0] using hu0)).2.2
  simp only [SK.post] at hpost;split at hpost;case h_2=>cases hpost
  case h_1 is ra oo his hra hoo=>
  split at hpost;case h_2=>cases hpost
  case h_1 row hrow=>
  cases hpost;have h1:=hR.tr t;rw [e1] at h1;simp only [TR] at h1;obtain ⟨as0,is0,vs,gf,ra0,row0,g1,g2,g3,gl,g4,g5,g6,g7,g8,g9,g10,g11,g12⟩:=h1;rw [e2] at g1;have his':is0=is:=by simp only [getI,g1,Option.some.injEq] at his;exact his
  subst his';have hsr:sv r = .v ra []:=by
   obtain ⟨is2,hs2⟩:=getA_some hra;rw [er2,hs2] at g10;rw [er2,hs2];cases g10;rfl
  have hra0:ra0=ra:=by rw [hsr] at g10;cases g10;rfl
  subst hra0;obtain ⟨k1,k2,k3,k4,_⟩:=argsX_ok (r0:=some r) (gG:=gGp (pth [] 0 sk is0).1 ((pth [] 0 sk is0).2+off) cs.length j) (Sall:=Y.S) hR hL hr0' hY hass (fun r hr=>hr) hrB (fun j' pm x f rd as hj hf' hfs=>by
   rw [hspe] at hj
   simp only [Option.some.injEq,Prod.mk.injEq] at hj
   obtain ⟨rfl,rfl,rfl⟩:=hj
   simp only [spGet,Option.some.injEq,Prod.mk.injEq] at hf'
   obtain ⟨rfl,_⟩:=hf'
   obtain ⟨is,hs⟩:=getA_some hfs
   rw [g1] at hs
   cases hs
   exact part_in hR e1 hr' he hl hfit hok (by rw [e2,g1]))
  obtain ⟨_,hpj,hmj,hxj,_⟩:=k4 _ _ _ hspe;refine call_run (d:=d) (gB:=gBp (pth [] 0 sk is0).1 ((pth [] 0 sk is0).2+off)) hex hgood hR.col k1 k2 hnp (fun q p _ hp => ?_) (fun k pm x as h1 h2 h3=>by simpa using k3 k pm x as h1 h2 h3) fun vv κ' w' hcr hrs houts => ?_
  ·have:p.1=j:=by
    unfold gGp at hp;repeat' split at hp
    all_goals first
     | cases hp;rfl
     | cases hp
   exact ⟨_,by rw [this];simpa using hpj,hmj⟩
  ·have htd:r≠d:=(hr0 r rfl).2.1;have hjlt:j<sg.ps.length:=by have:=(List.getElem?_eq_some_iff.1 hpj).1;omega
   have hout:=houts j (.mt ag cs) (gm a t) oo (by simpa using hpj) (by
    rw [List.getElem?_map];simp only [Nat.sub_zero] at hxj;rw [hxj];rfl) hoo
   obtain ⟨vs',o1,o2,o3⟩:=hout;rw [g2] at o1;cases o1;have hroot:=root_after (c:=cs) (e:=e) (g0:=gf) (as':=oo) (row:=row) (off:=off) hR hcr htd hjlt hr' hm he hsr hrow g5 rfl hfit (okC_eq hok).1 (okC_eq hok).2.2 (by
    refine RCL_get (fun i _ hi => ?_) o3
    exact (g9 i (by omega)).1) (tg':=upds (fun u=>(tg u).kill [d,r] [r]) [(d,resTag Y.S sg.res),(r,g r)]) (sv':=upds sv [(d,resAV res sg.res),(r,.v (setL ra0 sk is0 (splice row off oo)) [])]) (tm':=upd (gm a) d vv)
    (by simp [upds,htd,egr]) (by simp [upds,htd]) (by simp [upd,htd])
   have hR':=call_R hR hcr hdN (fun u hu=>by cases hu;exact ⟨hrN,htd⟩) (v:=vv) (tg':=upds (fun u=>(tg u).kill [d,r] [r]) [(d,resTag Y.S sg.res),(r,g r)]) (sv':=upds sv [(d,resAV res sg.res),(r,.v (setL ra0 sk is0 (splice row off oo)) [])])
    (fun u hu hne=>by
     have hrt:u≠r:=fun he=>hne (by rw [he])
     simp only [upds,if_neg hu,if_neg hrt];rfl) (fun u hu hne=>by
     have hrt:u≠r:=fun he=>hne (by rw [he])
     simp only [upds,if_neg hu,if_neg hrt]) (by
     have:=hcr.tr (ac:=ac) hres hrs (upds (fun u=>(tg u).kill [d,r] [r]) [(d,resTag Y.S sg.res),(r,g r)]) (upds sv [(d,resAV res sg.res),(r,.v (setL ra0 sk is0 (splice row off oo)) [])]) (upd (gm a) d vv) (by simp [upds]) (by simp [upd])
     simpa [upds] using this) (fun u hu=>by
     cases hu
     have:upds (fun u=>(tg u).kill [d,r] [r]) [(d,resTag Y.S sg.res),(r,g r)] r=tg r:=by simp [upds,htd,egr]
     rw [this];exact hroot)
   have hR2:=R_reS (tg2:=upds (fun u=>(tg u).killS r [d,r] [r]) [(d,resTag Y.S sg.res),(r,g r)]) hR hR' (r:=r) (mods:=[d,r]) (M:=[r]) (X:=[d,r]) (by simp) (fun u hu=>by
    simp only [List.mem_cons,List.not_mem_nil,or_false,not_or] at hu
    simp [upds,upd,hu.1,hu.2]) (fun u hu=>by
    simp only [List.mem_cons,List.not_mem_nil,or_false] at hu
    rcases hu with rfl|rfl
    ·simp [upds]
    ·simp [upds,htd]) (fun hb=>by
    obtain ⟨cb,hb⟩:=hb
    exact ⟨⟨cb,by simp [upds,htd,<-egr,hb]⟩,by simp [upd,htd]⟩)
   exact hcont vv w' _ _ _ (by rw [hd,gm_put (a:=a) (by rw [hN];exact hdN)];exact hR2) (fun t=>rfl) (fun t=>rfl)
 | @mp j t r cs cr hr hok hrN ht=>
  obtain ⟨e1,e2⟩:=hL.at hr (by simp);have hr0':∀u,some r=some u->u∉Y.S++CT.roSs cr:=fun u hu=>(hr0 u (by simpa [SK.r0] using hu)).1
  have hrB:∀u,some r=some u->u∉Y.B:=fun u hu0=>(hr0 u (by simpa [SK.r0] using hu0)).2.2
  have hok2:=hok;simp only [okM,Bool.and_eq_true] at hok2;have heq:=CT.beqs_eq hok2.1.1.1;have hemp:CT.srcss (CT.unpins cs)=[]:=List.isEmpty_iff.1 hok2.1.2;simp only [SK.post] at hpost;split at hpost;case h_2=>cases hpost
  case h_1 oo hoo=>
  cases hpost;have h1:=hR.tr r;rw [e1] at h1;simp only [TR] at h1;obtain ⟨ra,b,g1,g2,g3,g4,g5,g6,g7⟩:=h1;have hxr:gm a t=gm a r:=by
   rcases ht with rfl|⟨S0,hT⟩
   ·rfl
   ·obtain ⟨t1,t2⟩:=hL.at hT (by simp);have h1:=hR.tr t;rw [t1] at h1;simp only [TR] at h1;obtain ⟨is,B,O,u1,u2,_,_,u5⟩:=h1;rw [e1] at u2;simp only [paddr,rb,g2,Option.map_some] at u2;cases is with
    | nil=>
     simp only [wk,Option.some.injEq,Prod.mk.injEq] at u2;rw [u5,g2,<-u2.1,<-u2.2]
    | cons=>simp [wk] at u2
  obtain ⟨k1,k2,k3,k4,_⟩:=argsX_ok (r0:=some r) (gG:=fun q=>some (j,q)) (Sall:=Y.S++CT.roSs cr) hR hL hr0' hY hass (fun r hr=>List.mem_append_left _ hr) hrB (fun j' pm x f rd as hj hf' hfs=>by
   rw [hspe] at hj
   simp only [Option.some.injEq,Prod.mk.injEq] at hj
   obtain ⟨rfl,rfl,rfl⟩:=hj
   have hgr:∃is,s r = .v as is:=by
    rcases ht with rfl|⟨S0,hT⟩
    ·simp only [spGet,hr,Option.some.injEq,Prod.mk.injEq] at hf'
     obtain ⟨rfl,_⟩:=hf'
     exact getA_some hfs
    ·simp only [spGet,hT,Option.some.injEq,Prod.mk.injEq] at hf'
     obtain ⟨rfl,_⟩:=hf'
     exact getA_some hfs
   obtain ⟨is,hs⟩:=hgr
   exact box_in hR e1 hok (by rw [e2,hs]) (hr0' r rfl) (fun m hm=>List.mem_append_right _ hm) hxr)
  obtain ⟨_,hpj,hmj,hxj,_⟩:=k4 _ _ _ hspe;refine call_run (d:=d) (gB:=fun q=>some q) hex hgood hR.col k1 k2 hnp (fun q p _ hp => ?_) (fun k pm x as h1 h2 h3=>by simpa using k3 k pm x as h1 h2 h3) fun vv κ' w' hcr hrs houts => ?_
  ·cases hp;exact ⟨_,by simpa using hpj,hmj⟩
  ·have htd:r≠d:=(hr0 r rfl).2.1;have hjlt:j<sg.ps.length:=by have:=(List.getElem?_eq_some_iff.1 hpj).1;omega
   have hout:=houts j (.mp cs) (gm a t) oo (by simpa using hpj) (by
    rw [List.getElem?_map];simp only [Nat.sub_zero] at hxj;rw [hxj];rfl) hoo
   obtain ⟨b',o1,o2,o3,o4,o5⟩:=hout;have hko:outC κ (inC κ (some r) (fun q=>some (j,q)) (Y.S++CT.roSs cr)) κ' sg.ps.length d w.heap.size (some r) (fun q=>some q) b'=some (r,[]):=by
    unfold outC;rw [o3];simp only;rw [if_neg (by omega),if_neg (by omega)]
   have hroot:TR ac (outC κ (inC κ (some r) (fun q=>some (j,q)) (Y.S++CT.roSs cr)) κ' sg.ps.length d w.heap.size (some r) (fun q=>some q)) w' (upds (fun u=>(tg u).kill [d,r] [r]) [(d,resTag (Y.S++CT.roSs cr) sg.res),(r,.box (CT.mapSs (fun _=>Y.S++CT.roSs cr) (CT.unpins cs)))])
     (upds sv [(d,resAV res sg.res),(r,.v oo [])]) (upd (gm a) d vv) r (.box (CT.mapSs (fun _=>Y.S++CT.roSs cr) (CT.unpins cs))):=by
    simp only [TR];refine ⟨oo,b',by simp [upds,htd],by rw [upd_ne _ _ _ htd,<-hxr,o1],o2,hko,by rw [mapSs_length,unpins_length];exact o4,noPin_pins (noPin_mapSs hok2.2),?_⟩;refine RCL_moves (f:=fun _=>Y.S++CT.roSs cr) (P:=fun S=>∀r,r∈S->∃pm,sg.ps[r]?=some pm/\pm.mut=false) (κ:=κ') (w:=w') (κ':=outC κ (inC κ (some r) (fun q=>some (j,q)) (Y.S++CT.roSs cr)) κ' sg.ps.length d w.heap.size (some r) (fun q=>some q)) (w':=w') (p':=(r,[])) (j':=0) (get':=cellD w' b') (fun S hS b hb=>⟨hcr.res_ro hS hb,Same.refl w' b⟩) (srcs_allS2.2 (by rw [hemp];simp)) (fun i hi b2 q hb=>⟨?_,Same.refl w' b2⟩) (fun i hi=>rfl) (RCL_unpin.2 o5)
    ·unfold outC;rw [hb];simp only;rw [if_neg (by omega),if_neg (by omega)]
   have hR':=call_R hR hcr hdN (fun u hu=>by cases hu;exact ⟨hrN,htd⟩) (v:=vv) (tg':=upds (fun u=>(tg u).kill [d,r] [r]) [(d,resTag (Y.S++CT.roSs cr) sg.res),(r,.box (CT.mapSs (fun _=>Y.S++CT.roSs cr) (CT.unpins cs)))]) (sv':=upds sv [(d,resAV res sg.res),(r,.v oo [])])
    (fun u hu hne=>by
     have hrt:u≠r:=fun he=>hne (by rw [he])
     simp only [upds,if_neg hu,if_neg hrt];rfl) (fun u hu hne=>by
     have hrt:u≠r:=fun he=>hne (by rw [he])
     simp only [upds,if_neg hu,if_neg hrt]) (by
     have:=hcr.tr (ac:=ac) hres hrs (upds (fun u=>(tg u).kill [d,r] [r]) [(d,resTag (Y.S++CT.roSs cr) sg.res),(r,.box (CT.mapSs (fun _=>Y.S++CT.roSs cr) (CT.unpins cs)))]) (upds sv [(d,resAV res sg.res),(r,.v oo [])]) (upd (gm a) d vv) (by simp [upds]) (by simp [upd])
     simpa [upds] using this) (fun u hu=>by
     cases hu
     have:upds (fun u=>(tg u).kill [d,r] [r]) [(d,resTag (Y.S++CT.roSs cr) sg.res),(r,.box (CT.mapSs (fun _=>Y.S++CT.roSs cr) (CT.unpins cs)))] r = .box (CT.mapSs (fun _=>Y.S++CT.roSs cr) (CT.unpins cs)):=by simp [upds,htd]
     rw [this];exact hroot)
   have hR2:=R_reS (tg2:=upds (fun u=>(tg u).killS r [d,r] [r]) [(d,resTag (Y.S++CT.roSs cr) sg.res),(r,.box (CT.mapSs (fun _=>Y.S++CT.roSs cr) (CT.unpins cs)))]) hR hR' (r:=r) (mods:=[d,r]) (M:=[r]) (X:=[d,r]) (by simp) (fun u hu=>by
    simp only [List.mem_cons,List.not_mem_nil,or_false,not_or] at hu
    simp [upds,upd,hu.1,hu.2]) (fun u hu=>by
    simp only [List.mem_cons,List.not_mem_nil,or_false] at hu
    rcases hu with rfl|rfl
    ·simp [upds]
    ·simp [upds,htd]) (fun hb=>⟨⟨_,by simp [upds,htd];rfl⟩,by simp [upd,htd]⟩)
   exact hcont vv w' _ _ _ (by rw [hd,gm_put (a:=a) (by rw [hN];exact hdN)];exact hR2) (fun t=>rfl) (fun t=>rfl)
end Go.Fw
