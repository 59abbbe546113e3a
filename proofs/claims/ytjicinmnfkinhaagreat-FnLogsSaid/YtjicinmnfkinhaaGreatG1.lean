/- A way of showing what a function computes: the blocks of the heap are owned by the places that kg them; this is a part of it. No conditions. -/
import Derived.Test.YtjicinmnfkinhaaGreatG0
import Derived.Laws.Entries
import Derived.Laws.BitsLemmas
set_option linter.unusedSectionVars false
namespace Go.Fw
inductive PM where
 | rd (ag:Bool) (cs:List CT)
 | tk (ag:Bool) (cs:List CT)
 | mt (ag:Bool) (cs:List CT)
 | mp (cs:List CT)
inductive RS where
 | u
 | one (ag:Bool) (cs:List CT)
 | tup (ws:List (Bool × Nat)) (cs:List CT)
 | bx (cs:List CT)
structure aO where
 ps:List PM
 res:RS
def pW (κ:aP) (w:aA) (i:Nat) (x:aj) (as:aa A):PM->Prop
 | .rd ag cs=>∃vs,cellsOf ag x=some vs/\vs.length=cs.length/\aB κ w (CT.roizes [i] cs) (i,[]) 0 (fun k=>vs.getD k undef) as
 | .tk ag cs=>∃vs,cellsOf ag x=some vs/\vs.length=cs.length/\aB κ w cs (i,[]) 0 (fun k=>vs.getD k undef) as
 | .mt ag cs=>∃vs,cellsOf ag x=some vs/\vs.length=cs.length/\aB κ w cs (i,[]) 0 (fun k=>vs.getD k undef) as
 | .mp cs=>∃b,x = .pointer (some ⟨b,0,none⟩)/\b<w.heap.size/\κ b=some (i,[])/\Wrb w b 0 cs.length/\aB κ w cs (i,[]) 0 (cellD w b) as
def aoL (κ:aP) (w:aA) (i:Nat) (x:aj) (as:aa A):PM->Prop
 | .mt ag cs=>∃vs,cellsOf ag x=some vs/\vs.length=cs.length/\aB κ w cs (i,[]) 0 (fun k=>vs.getD k undef) as
 | .mp cs=>∃b,x = .pointer (some ⟨b,0,none⟩)/\b<w.heap.size/\κ b=some (i,[])/\Wrb w b 0 cs.length/\aB κ w cs (i,[]) 0 (cellD w b) as
 | _=>True
def aoM (κ:aP) (w:aA) (n:Nat) (x:aj) (as:aa A):RS->Prop
 | .u=>x = .tuple #[]
 | .one ag cs=>∃vs,cellsOf ag x=some vs/\vs.length=cs.length/\aB κ w cs (n,[]) 0 (fun k=>vs.getD k undef) as
 | .tup ws cs=>∃xs vs,x = .tuple xs/\u_ ws xs.toList=some vs/\vs.length=cs.length/\aB κ w cs (n,[]) 0 (fun k=>vs.getD k undef) as
 | .bx cs=>∃b,x = .pointer (some ⟨b,0,none⟩)/\b<w.heap.size/\κ b=some (n,[])/\Wrb w b 0 cs.length/\aB κ w cs (n,[]) 0 (cellD w b) as
def PM.mut:PM->Bool
 | .rd _ _=>false
 | _=>true
def Mine (sg:aO) (κ:aP):Prop:=∀b r q,κ b=some (r,q)->r=FB\/∃pm,sg.ps[r]?=some pm/\pm.mut=true
structure Post (sg:aO) (κ:aP) (w:World) (xs:List Value) (res:List A) (outs:List (List A)) (κ':aP) (w':World) (v:Value):Prop where
 col:∀b,w'.heap.size<=b->κ' b=none
 fr:Fr κ w κ' w'
 fb:∀b q,κ b=some (FB,q)->κ' b=some (FB,q)/\Same w w' b
 mine:∀b r q,κ' b=some (r,q)->(r=FB/\∃q',κ b=some (FB,q'))\/r=sg.ps.length\/∃pm,sg.ps[r]?=some pm/\pm.mut=true
 res:aoM κ' w' sg.ps.length v res sg.res
 outs:∀i pm x as,sg.ps[i]?=some pm->xs[i]?=some x->outs[i]?=some as->aoL κ' w' i x as pm
def Good (P:aR) (K:FuncId) (sg:aO) (args:aa (aa A)) (res:aa A) (outs:aa (aa A)):Prop:=
 ∀(κ:aP) (w:aA) (xs:aa aj),(∀b,w.heap.size<=b->κ b=none)->Mine sg κ->xs.length=sg.ps.length->args.length=sg.ps.length ->
  (∀i pm x as,sg.ps[i]?=some pm->xs[i]?=some x->args[i]?=some as->pW κ w i x as pm) ->
  Calls P K xs.toArray w fun e w'=>∃v κ',e = .returned v/\Post sg κ w xs res outs κ' w' v
def fV (κc:aP) (r0:ah Nat) (gG:aa Nat->ah Pl) (Sall:aa Nat):aP:=fun b=>
 match κc b with
 | none=>none
 | some (r,q)=>if some r=r0 then (match gG q with|some p=>some p|none=>some (FB,[0])) else if r∈Sall/\q≠[] then none else some (FB,[0])
def gN (κc κi κ':aP) (np d sz:Nat) (r0:ah Nat) (gB:aa Nat->ah (aa Nat)):aP:=fun b=>
 match κ' b with
 | some (r,q)=>if r=np then some (d,q) else if r=FB then (κc b).bind (iV d) else match r0,gB q with
  | some r',some q'=>some (r',q')
  | _,_=>none
 | none=>if κi b=none/\b<sz then (κc b).bind (iV d) else none
section
variable {ac:Nat->Nat->aj} {κ0 κ κi κ':aP} {w0 w w':aA} {N:Nat} {tg tg':Nat->TT} {sv sv':Nat->AV} {tm tm':Nat->aj}
theorem ac6 {w w':aA} {b:Nat} (hs:b<w.heap.size->b<w'.heap.size) (h:w'.heap[b]?=w.heap[b]?):Same w w' b:=by
 refine ⟨hs,fun o x hx => ?_⟩;simp only [World.cell?,World.frozen?,h] at hx ⊢;exact ⟨hx,trivial⟩
theorem aA3 (h:R ac κ0 w0 κ w N tg sv tm) {d np:Nat} (hd:d<N) {r0:ah Nat} (oC:∀r,r0=some r->r<N) {gG:aa Nat->ah Pl} {gB:aa Nat->ah (aa Nat)} {Sall:aa Nat}
  (N9:κi=fV κ r0 gG Sall) (jy:np≠FB) (kw:∀b,w'.heap.size<=b->κ' b=none) (hfr:Fr κi w κ' w') (qy:∀b q,κi b=some (FB,q)->κ' b=some (FB,q)/\Same w w' b)
  (arE:∀b q,κ' b=some (FB,q)->∃q',κi b=some (FB,q'))
  (sK:∀r,r≠d->some r≠r0->tg' r=(tg r).kill (d::r0.toList) r0.toList) (jJ:∀r,r≠d->some r≠r0->sv' r=sv r) (qx:∀r,r≠d->some r≠r0->tm' r=tm r)
  (hTd:TR ac (gN κ κi κ' np d w.heap.size r0 gB) w' tg' sv' tm' d (tg' d)) (BM:∀r,r0=some r->r≠d->TR ac (gN κ κi κ' np d w.heap.size r0 gB) w' tg' sv' tm' r (tg' r)) :
  R ac κ0 w0 (gN κ κi κ' np d w.heap.size r0 gB) w' N tg' sv' tm':=by
 have dM:=hfr.size
 -- what is not aHU on stays
 have stay:∀b,b<w.heap.size->(∀r q,κ b=some (r,q)->some r≠r0)->gN κ κi κ' np d w.heap.size r0 gB b=(κ b).bind (iV d)/\Same w w' b:=by
  intro b hb bv;have hi:κi b=none\/κi b=some (FB,[0]):=by
   rw [N9];unfold fV;cases hk:κ b with
   | none=>exact .inl rfl
   | some p=>
    obtain ⟨r,q⟩:=p;simp only;rw [if_neg (bv r q hk)];split
    ·exact .inl rfl
    ·exact .inr rfl
  rcases hi with hi|hi
  ·have:=hfr.kept b hb hi;refine ⟨?_,ac6 (fun _=>mU hb dM) this.2⟩;unfold gN;rw [this.1];simp only;rw [if_pos ⟨hi,hb⟩]
  ·have:=qy b _ hi;refine ⟨?_,this.2⟩;unfold gN;rw [this.1];simp only;rw [if_neg (ig jy),if_pos trivial]
 have lt:∀b p,κ b=some p->b<w.heap.size:=fun b p hb=>by
  apply sW;intro dD;rw [h.col b dD] at hb;cases hb
 refine uy (mods:=d::r0.toList) (M:=r0.toList) h ?_ (fun S hS b hb => ?_) (fun b r q hr hb => ?_) (fun r hr => ?_) (fun r hr => ?_) (fun r hr => ?_) (fun t ht => ?_) (fun t ht => ?_) (fun b hb => ?_) ?_
 ·have:=h.nle;simp only [aY,J9,not_or];refine ⟨by omega,fun hf => ?_⟩;have:=oC FB hf;omega
 ·have h1:=stay b hb.1 (fun r q hk he=>hS r (by simp [<-he]) (hb.2 r q hk).1);refine ⟨⟨mU hb.1 dM,fun r q hk => ?_⟩,h1.2⟩;rw [h1.1] at hk;cases hκ:κ b with
  | none=>simp [hκ] at hk
  | some p=>
   simp only [hκ,af,iV] at hk;split at hk
   ·cases hk
   ·cases hk;exact hb.2 r q hκ
 ·simp only [aY,J9,not_or] at hr;have h1:=stay b (lt b _ hb) (fun r' q' hk he=>by rw [hb] at hk;cases hk;exact hr.2 he.symm);refine ⟨?_,h1.2⟩;rw [h1.1,hb];simp [iV,hr.1]
 ·simp only [aY,J9,not_or] at hr;exact .inl (sK r hr.1 fun he=>hr.2 he.symm)
 ·simp only [aY,J9,not_or] at hr;exact jJ r hr.1 fun he=>hr.2 he.symm
 ·simp only [aY,J9,not_or] at hr;exact qx r hr.1 fun he=>hr.2 he.symm
 ·by_cases fZ:t=d
  ·subst fZ;exact hTd
  ·simp only [aY,fZ,J9,false_or] at ht;exact BM t ht fZ
 ·have h1:t≠d:=by omega
  have h2:some t≠r0:=fun he=>by have:=oC t he.symm;omega
  rw [sK t h1 h2,h.out t ht];rfl
 ·unfold gN;rw [kw b hb];simp only;rw [if_neg (by omega)]
 ·refine ⟨kF h.fr.size dM,fun b hb h0 => ?_,by rw [hfr.os];exact h.fr.os,by rw [hfr.out];exact h.fr.out,by rw [hfr.tape];exact h.fr.tape⟩;have hk:=h.fr.kept b hb h0;have hbw:=mU hb h.fr.size;have h1:=stay b hbw (fun r q hkb=>by rw [hk.1] at hkb;cases hkb);refine ⟨by rw [h1.1,hk.1];rfl,?_⟩;have hi:κi b=none:=by rw [N9];unfold fV;rw [hk.1]
  rw [(hfr.kept b hbw hi).2];exact hk.2
end
end Go.Fw
namespace Go.Fw
inductive DF where
 | bin (op:BinOp)
 | beq (ne:Bool)
 | not
 | neg
 | conv (k:IntKind)
 | min
 | max
 | sidx
 | slen
 | ssl (lo hi:Bool)
 | pick
 deriving DecidableEq
def ag1 (op:BinOp) (a b:ByteArray):ah Bool:=
 let eq:=a.toList == b.toList
 let lt:=Op.bytesLess a.toList b.toList
 match op with
 | .eql=>some eq
 | .neq=>some !eq
 | .lss=>some lt
 | .leq=>some (lt || eq)
 | .gtr=>some !(lt || eq)
 | .geq=>some !lt
 | _=>none
def intCmp (op:BinOp) (a b:Int):ah Bool:=
 match op with
 | .eql=>some (a == b)
 | .neq=>some (a != b)
 | .lss=>some (decide (a<b))
 | .leq=>some (decide (a<=b))
 | .gtr=>some (decide (a > b))
 | .geq=>some (decide (a ≥ b))
 | _=>none
def Ot (op:BinOp) (k:IntKind) (a b:Int):ah Int:=
 match op with
 | .add=>some (k.wrap (a+b))
 | .sub=>some (k.wrap (a-b))
 | .mul=>some (k.wrap (a*b))
 | .quo=>if b=0 then none else some (k.wrap (a.tdiv b))
 | .rem=>if b=0 then none else some (a.tmod b)
 | .and=>some (bits .and k a b)
 | .or=>some (bits .or k a b)
 | .xor=>some (bits .xor k a b)
 | .andNot=>some (bits .andNot k a b)
 | _=>none
def aoN (op:BinOp) (k:IntKind) (a b:Int):ah Int:=
 if b<0 then none else match op with
  | .shl=>some (k.wrap (a*2 ^ (Nat.min b.toNat k.bits)))
  | .shr=>some (a.fdiv (2 ^ (Nat.min b.toNat k.bits)))
  | _=>none
def dfe:DF->aa aj->ah aj
 | .bin op,[.int k a,.int k' b]=>if op = .shl\/op = .shr then (aoN op k a b).map (.int k ·) else if k=k' then match Ot op k a b with
   | some n=>some (.int k n)
   | none=>(intCmp op a b).map .bool
  else none
 | .bin op,[.string a,.string b]=>if op = .add then (if a.size+b.size<=4611686018427387904 then some (.string (a++b)) else none) else (ag1 op a b).map .bool
 | .beq ne,[.bool a,.bool b]=>some (.bool (if ne then !(a == b) else a == b))
 | .not,[.bool a]=>some (.bool !a)
 | .neg,[.int k a]=>some (.int k (k.wrap (0-a)))
 | .conv k,[.int _ a]=>some (.int k (k.wrap a))
 | .min,[.int k a,.int _ b]=>some (.int k (if b<a then b else a))
 | .max,[.int k a,.int _ b]=>some (.int k (if b > a then b else a))
 | .sidx,[.string s,.int _ i]=>if 0<=i then (s[i.toNat]?).map fun b=>.int .u8 b.toNat else none
 | .slen,[.string s]=>some (.int .i64 s.size)
 | .ssl lo hi,.string s::is=>match lo,hi,is with
  | false,false,[]=>some (.string (s.extract 0 s.size))
  | true,false,[.int _ l]=>if 0<=l/\l<=s.size then some (.string (s.extract l.toNat s.size)) else none
  | false,true,[.int _ h]=>if 0<=h/\h<=s.size then some (.string (s.extract 0 h.toNat)) else none
  | true,true,[.int _ l,.int _ h]=>if 0<=l/\l<=h/\h<=s.size then some (.string (s.extract l.toNat h.toNat)) else none
  | _,_,_=>none
 | .pick,[.bool c,a,b]=>some (if c then a else b)
 | _,_=>none
theorem aA4 {f:DF} {xs:aa aj} {y:aj} (hx:xs.all sc=true) (h:dfe f xs=some y):sc y=true:=by
 unfold dfe at h;split at h
 ·split at h
  ·simp only [cO] at h;obtain ⟨_,_,rfl⟩:=h;rfl
  ·split at h
   ·split at h
    ·cases h;rfl
    ·simp only [cO] at h;obtain ⟨_,_,rfl⟩:=h;rfl
   ·cases h
 ·split at h
  ·split at h
   ·cases h;rfl
   ·cases h
  ·simp only [cO] at h;obtain ⟨_,_,rfl⟩:=h;rfl
 ·cases h;rfl
 ·cases h;rfl
 ·cases h;rfl
 ·cases h;rfl
 ·cases h;rfl
 ·cases h;rfl
 ·split at h
  ·simp only [cO] at h;obtain ⟨_,_,rfl⟩:=h;rfl
  ·cases h
 ·cases h;rfl
 ·split at h
  ·cases h;rfl
  ·split at h
   ·cases h;rfl
   ·cases h
  ·split at h
   ·cases h;rfl
   ·cases h
  ·split at h
   ·cases h;rfl
   ·cases h
  ·cases h
 ·cases h;simp at hx;split
  ·exact hx.2.1
  ·exact hx.2.2
 ·cases h
theorem Tk {P:aR} {op:BinOp} {t:TypeId} {x y:iN} {u v r:aj} {w:aA} (hu:sc u=true) (hv:sc v=true) (h:dfe (.bin op) [u,v]=some r) :
  ((do eqGuard op t x y u v;binOp op t u v):Sem aj).run P w = .ok r w:=by
 have hg:(eqGuard op t x y u v).run P w = .ok () w:=by
  cases op<;>first
   | rfl
   | (cases u<;>simp [sc] at hu<;>cases v<;>simp [sc] at hv<;>rfl)
 rw [aF hg];cases u with
 | int k a=>
  cases v with
  | int k' b=>
   simp only [dfe] at h;split at h
   ·rename_i uo;simp only [cO] at h;obtain ⟨n,hn,rfl⟩:=h;have akh:binOp op t (.int k a) (.int k' b)=Op.shift op k a k' b:=by rcases uo with rfl|rfl<;>rfl
    rw [akh];unfold aoN at hn;unfold Op.shift;split at hn
    ·cases hn
    ·rename_i hb;simp only [hb,if_false];rcases uo with rfl|rfl<;>simp at hn<;>subst hn<;>rfl
   ·rename_i uo;simp only [not_or] at uo;split at h
    ·rename_i hk;subst hk;have akh:binOp op t (.int k a) (.int k b)=(match op with
      | .add | .sub | .mul=>Op.intArith op k a b
      | .quo | .rem=>Op.intDiv op k a b
      | .and | .or | .xor | .andNot=>Op.intBits op k a b
      | _=>Op.intCmp op a b):=by
      unfold binOp;cases op<;>simp at uo<;>simp
     rw [akh];cases op<;>simp [Ot,Fw.intCmp] at h uo<;>first
      | (subst h;rfl)
      | (split at h
         ·rename_i hz
          split at hz<;>simp at hz
          subst hz;cases h
          rename_i hb
          simp [Op.intDiv,hb]
         ·simp at h)
    ·cases h
  | _=>simp [dfe] at h
 | string a=>
  cases v with
  | string b=>
   simp only [dfe] at h;have akh:binOp op t (.string a) (.string b)=Op.stringOp op a b:=by cases op<;>rfl
   rw [akh];split at h
   ·rename_i ho;subst ho;split at h
    ·rename_i hs;cases h;have aGl:¬(((a.size+b.size:Nat):Int) > IntKind.i64.max):=by
      have:IntKind.i64.max=9223372036854775807:=by decide
      rw [this];omega
     simp only [Op.stringOp,aGl,if_false];rfl
    ·cases h
   ·simp only [cO] at h;obtain ⟨c,hc,rfl⟩:=h;cases op<;>first
     | (cases hc;rfl)
     | (simp [ag1] at hc)
  | _=>simp [dfe] at h
 | bool a=>simp [dfe] at h
 | _=>simp [sc] at hu
end Go.Fw
namespace Go.Fw
def gt (G:aa TT) (t:Nat):TT:=G.getD t .dead
def gm (a:Act) (t:Nat):aj:=a.tmps.getD t undef
def Le (D:Nat->TT) (s:Nat->AV) (tg:Nat->TT) (sv:Nat->AV):Prop:=∀t,D t = .dead\/(D t=tg t/\s t=sv t)
theorem Le.at {D:Nat->TT} {s:Nat->AV} {tg:Nat->TT} {sv:Nat->AV} (h:Le D s tg sv) {t:Nat} {T:TT} (ht:D t=T) (hT:T≠.dead):tg t=T/\sv t=s t:=by
 rcases h t with h|h
 ·exact absurd (ht.symm.trans h) hT
 ·exact ⟨by rw [<-h.1,ht],h.2.symm⟩
theorem qf {a:Act} {d:Nat} (hd:d<a.tmps.size) (x:aj):gm (a.put (some d) x)=upd (gm a) d x:=by
 funext t;simp only [gm,Act.put,upd,rG,abN];by_cases h:t=d
 ·subst h;simp [hd]
 ·simp [h,ig h]
inductive DX where
 | t (i:Nat)
 | c (v:Value)
def DX.get (s:Nat->AV):DX->ah aj
 | .t i=>match s i with
  | .v [.v x] _=>some x
  | _=>none
 | .c v=>some v
def nL (D:Nat->TT):iN->ah DX
 | .tmp t=>match D t with
  | .val false [.d]=>some (.t t)
  | _=>none
 | .const v=>if sc v then some (.c v) else none
 | _=>none
section
variable {ac:Nat->Nat->aj} {κ0 κ:aP} {w0 w:aA} {N:Nat} {tg D:Nat->TT} {sv s:Nat->AV} {a:Act}
theorem vH (h:R ac κ0 w0 κ w N tg sv (gm a)) (hD:Le D s tg sv) {x:iN} {X:DX} (hx:nL D x=some X) {v:aj} (hv:X.get s=some v):a.eval x=v/\sc v=true:=by
 cases x with
 | tmp t=>
  simp only [nL] at hx;split at hx
  ·rename_i hT;cases hx;simp only [DX.get] at hv;split at hv
   ·rename_i y is hs;cases hv;have h1:=h.tr t;obtain ⟨e1,e2⟩:=hD.at hT (by simp);rw [e1] at h1;simp only [TR] at h1;obtain ⟨as,vs,g1,g2,g3,g4,g5⟩:=h1;rw [e2,hs] at g1;cases g1;have mr:vs=[gm a t]:=by
     cases hx:gm a t<;>rw [hx] at g2<;>simp [cellsOf] at g2<;>exact g2.symm
    subst mr;simp only [aB,RC] at g5;have:=g5.1;simp at this;exact ⟨this.1,this.2⟩
   ·cases hv
  ·cases hx
 | const c=>
  simp only [nL] at hx;split at hx
  ·cases hx;simp only [DX.get] at hv;cases hv;rename_i hs;exact ⟨rfl,hs⟩
  ·cases hx
 | global g=>simp [nL] at hx
 | func f=>simp [nL] at hx
def Ov (D:Nat->TT):aa iN->ah (aa DX)
 | []=>some []
 | x::xs=>match nL D x,Ov D xs with
  | some X,some Xs=>some (X::Xs)
  | _,_=>none
def DXs (s:Nat->AV):aa DX->ah (aa aj)
 | []=>some []
 | X::Xs=>match X.get s,DXs s Xs with
  | some v,some vs=>some (v::vs)
  | _,_=>none
theorem ac7 (h:R ac κ0 w0 κ w N tg sv (gm a)) (hD:Le D s tg sv):∀{xs:aa iN} {Xs:aa DX} {vs:aa aj},Ov D xs=some Xs->DXs s Xs=some vs->xs.map a.eval=vs/\vs.all sc=true
 | [],_,_,hx,hv=>by simp only [Ov,aK] at hx;subst hx;simp only [DXs,aK] at hv;subst hv;simp
 | x::xs,Xs,vs,hx,hv=>by
  simp only [Ov] at hx;split at hx
  ·rename_i X Xs' h1 h2;cases hx;simp only [DXs] at hv;split at hv
   ·rename_i v vs' h3 h4;cases hv;have e1:=vH h hD h1 h3;have e2:=ac7 h hD h2 h4;simp [e1.1,e1.2,e2.1,e2.2]
   ·cases hv
  ·cases hx
end
def Xq (P:aR):Builtin->aa iN->aa TypeId->ah (DF × aa iN)
 | .len,[x],[t]=>match P.underlying t with
  | some .string=>some (.slen,[x])
  | _=>none
 | .min,[x,y],_=>some (.min,[x,y])
 | .max,[x,y],_=>some (.max,[x,y])
 | _,_,_=>none
def oK (P:aR):Op->ah (DF × aa iN)
 | .binOp op t x y _=>match P.underlying t with
  | some .bool=>if op = .eql\/op = .neq then some (.beq (decide (op = .neq)),[x,y]) else none
  | some (.int _)=>some (.bin op,[x,y])
  | some .string=>some (.bin op,[x,y])
  | _=>none
 | .unOp .not _ x=>some (.not,[x])
 | .unOp .neg _ x=>some (.neg,[x])
 | .convert src dst x=>match P.underlying src,P.underlying dst with
  | some (.int _),some (.int k)=>some (.conv k,[x])
  | _,_=>none
 | .pick c x y=>some (.pick,[c,x,y])
 | .index t x i=>match P.underlying t with
  | some .string=>some (.sidx,[x,i])
  | _=>none
 | .slice t x lo hi none=>match P.underlying t with
  | some .string=>some (.ssl lo.isSome hi.isSome,x::(lo.toList++hi.toList))
  | _=>none
 | .call c=>match c.callee with
  | .builtin b=>Xq P b c.args.toList c.argTypes.toList
  | _=>none
 | _=>none
theorem dG {P:aR} {e:Sem aj} {v:aj} {w w':aA} (h:e.run P w = .ok v w'):((do pure (Next.value (<-e))):Sem Next).run P w = .ok (.value v) w':=by
 rw [aF h];rfl
theorem D6 {ρ:iN->aj} {o:bS} {b:Builtin} {args:Array iN} {ats:Array TypeId} (h:o.op = .call { callee:=.builtin b,args,argTypes:=ats }) :
  ∃cs,execOp ρ o=builtin b ats o.type cs (args.map ρ):=by
 refine ⟨args.map fun | .const _=>true|_=>false,?_⟩;unfold execOp;rw [h];rfl
theorem aoO {P:aR} {o:bS} {ρ:iN->aj} {f:DF} {xs:aa iN} {y:aj} {w:aA} (hc:oK P o.op=some (f,xs)) (hs:(xs.map ρ).all sc=true) (he:dfe f (xs.map ρ)=some y) :
  (execOp ρ o).run P w = .ok (.value y) w:=by
 unfold execOp;cases ng:o.op with
 | binOp op t x z u=>
  rw [ng] at hc;simp only [oK] at hc;simp only;refine dG ?_;split at hc
  ·rename_i hu;split at hc
   ·rename_i ng;cases hc;simp only [bf,bQ] at hs he;simp at hs;cases hx:ρ x<;>rw [hx] at hs he<;>simp [dfe] at he;cases hz:ρ z<;>rw [hz] at hs he<;>simp [dfe] at he;rename_i p q;have rE:(Op.equal t (.bool p) (.bool q)).run P w = .ok (p == q) w:=by
     unfold Op.equal Op.maxDepth;show (Op.equalIn (9999+1) t (.bool p) (.bool q)).run P w=_;unfold Op.equalIn;rw [aF (run_underlying hu w)];rfl
    rcases ng with rfl|rfl
    ·have hg:(eqGuard .eql t x z (.bool p) (.bool q)).run P w = .ok () w:=rfl;rw [aF hg];show ((do pure (Value.bool (<-Op.equal t (.bool p) (.bool q)))):Sem aj).run P w=_;rw [aF rE];simp at he;subst he;rfl
    ·have hg:(eqGuard .neq t x z (.bool p) (.bool q)).run P w = .ok () w:=rfl;rw [aF hg];show ((do pure (Value.bool (!(<-Op.equal t (.bool p) (.bool q))))):Sem aj).run P w=_;rw [aF rE];simp at he;subst he;rfl
   ·cases hc
  ·cases hc;simp only [bf,bQ] at hs he;simp at hs;exact Tk hs.1 hs.2 he
  ·cases hc;simp only [bf,bQ] at hs he;simp at hs;exact Tk hs.1 hs.2 he
  ·cases hc
 | unOp op t x=>
  rw [ng] at hc;simp only;refine dG ?_;cases op<;>simp [oK] at hc
  ·obtain ⟨rfl,rfl⟩:=hc;simp only [bf,bQ] at hs he;cases hx:ρ x<;>rw [hx] at he<;>simp [dfe] at he;subst he;first
    | rfl
    | simp [Op.unary,Op.intArith,run_pure]
  ·obtain ⟨rfl,rfl⟩:=hc;simp only [bf,bQ] at hs he;cases hx:ρ x<;>rw [hx] at he<;>simp [dfe] at he;subst he;first
    | rfl
    | simp [Op.unary,Op.intArith,run_pure]
 | convert src dst x=>
  rw [ng] at hc;simp only [oK] at hc;split at hc
  ·rename_i k0 k h1 h2;cases hc;simp only [bf,bQ] at hs he;simp only;refine dG ?_;cases hx:ρ x<;>rw [hx] at he<;>simp [dfe] at he;subst he;unfold convert;rw [aF (run_underlying h1 w),aF (run_underlying h2 w)];rfl
  ·cases hc
 | pick c x z=>
  rw [ng] at hc;simp only [oK,aK,bU] at hc;obtain ⟨rfl,rfl⟩:=hc;simp only [bf,bQ] at hs he;cases hx:ρ c<;>rw [hx] at he<;>simp [dfe] at he;subst he;simp only [hx];rfl
 | index t x i=>
  rw [ng] at hc;simp only [oK] at hc;split at hc
  ·rename_i hu;cases hc;simp only [bf,bQ] at hs he;simp only;refine dG ?_;cases hx:ρ x<;>rw [hx] at he<;>simp [dfe] at he;cases hi:ρ i<;>rw [hi] at he<;>simp [dfe] at he;rename_i str k n;obtain ⟨h0,b,hb,rfl⟩:=he;unfold Instr.index;have hs:(asIntOf (.int k n)).run P w = .ok (k,n) w:=rfl;rw [aF hs];simp only;rw [aF (run_underlying hu w)];simp only [h0,if_true,hb];rfl
  ·cases hc
 | slice t x lo hi mx=>
  rw [ng] at hc;cases mx with
  | some m=>simp [oK] at hc
  | none=>
   simp only [oK] at hc;split at hc
   ·rename_i hu;cases hc;simp only;refine dG ?_;have hb:∀(n y:Nat) (c:BoundsCode) (k:IntKind) (m:Int),0<=m->m<=y->n=m.toNat->(Instr.sliceBound (.int k m) y c).run P w = .ok n w:=by
     intro n y c k m h0 h1 hn;unfold Instr.sliceBound;have hs:(asIntOf (.int k m)).run P w = .ok (k,m) w:=rfl;rw [aF hs];simp only [h0,h1,and_self,if_true,hn];rfl
    have key:∀(str:ByteArray) (l h:Nat) (lo' jw:ah aj),(Instr.sliceBounds false str.size str.size lo' jw none).run P w = .ok (l,h,str.size) w ->
      (Instr.sliceAt t (.string str) lo' jw none).run P w = .ok (.string (str.extract l h)) w:=by
     intro str l h lo' jw wT;unfold Instr.sliceAt;rw [aF (run_underlying hu w)];simp only;unfold Instr.slice;rw [aF (run_underlying hu w)];simp only [Option.isSome_none,eQ,if_false];rw [aF wT];rfl
    cases lo with
    | none=>
     cases hi with
     | none=>
      simp only [Option.isSome_none,Option.toList_none,kY,bf,bQ] at hs he;show (Instr.sliceAt t (ρ x) none none none).run P w=_;cases hx:ρ x<;>rw [hx] at he<;>simp only [dfe] at he<;>try cases he
      exact key _ _ _ _ _ rfl
     | some hh=>
      simp only [Option.isSome_none,Option.isSome_some,Option.toList_none,Option.toList_some,dN,bf,bQ] at hs he;show (Instr.sliceAt t (ρ x) none (some (ρ hh)) none).run P w=_;cases hx:ρ x<;>rw [hx] at he<;>simp only [dfe] at he<;>try cases he
      cases hy:ρ hh<;>rw [hy] at he<;>simp only at he<;>try cases he
      split at he
      ·rename_i uW;cases he;refine key _ _ _ _ _ ?_;unfold Instr.sliceBounds;simp only;rw [aF (run_pure _ P w)]
       try simp only
       rw [aF (hb _ _ _ _ _ uW.1 uW.2 rfl)];rfl
      ·cases he
    | some ll=>
     cases hi with
     | none=>
      simp only [Option.isSome_none,Option.isSome_some,Option.toList_none,Option.toList_some,kY,bf,bQ] at hs he;show (Instr.sliceAt t (ρ x) (some (ρ ll)) none none).run P w=_;cases hx:ρ x<;>rw [hx] at he<;>simp only [dfe] at he<;>try cases he
      cases hy:ρ ll<;>rw [hy] at he<;>simp only at he<;>try cases he
      split at he
      ·rename_i uW;cases he;refine key _ _ _ _ _ ?_;unfold Instr.sliceBounds;simp only;rw [aF (run_pure _ P w)]
       try simp only
       rw [aF (run_pure _ P w)]
       try simp only
       rw [aF (hb _ _ _ _ _ uW.1 uW.2 rfl)];rfl
      ·cases he
     | some hh=>
      simp only [Option.isSome_some,Option.toList_some,Ap,bf,bQ] at hs he;show (Instr.sliceAt t (ρ x) (some (ρ ll)) (some (ρ hh)) none).run P w=_;cases hx:ρ x<;>rw [hx] at he<;>simp only [dfe] at he<;>try cases he
      cases hy:ρ ll<;>rw [hy] at he<;>(try simp only at he)<;>try cases he
      cases hz:ρ hh<;>rw [hz] at he<;>simp only at he<;>try cases he
      split at he
      ·rename_i uW;cases he;refine key _ _ _ _ _ ?_;unfold Instr.sliceBounds;simp only;rw [aF (run_pure _ P w)]
       try simp only
       rw [aF (hb _ _ _ _ _ (by omega) (by omega) rfl)]
       try simp only
       rw [aF (hb _ _ _ _ _ uW.1 (by omega) rfl)];rfl
      ·cases he
   ·cases hc
 | call c=>
  rw [ng] at hc;obtain ⟨callee,args,ats⟩:=c;simp only [oK] at hc;cases callee with
  | builtin b=>
   simp only at hc;obtain ⟨cs,pO⟩:=D6 (ρ:=ρ) ng;obtain ⟨args⟩:=args;obtain ⟨ats⟩:=ats;simp only at hc;unfold execOp at pO;rw [ng] at pO;simp only at pO ⊢;rw [pO];unfold Xq at hc;split at hc
   ·split at hc
    ·rename_i hu;cases hc;simp only [bf,bQ] at hs he;cases hx:ρ _<;>rw [hx] at he<;>simp [dfe] at he;subst he;refine dG ?_;unfold Builtin.len_;simp only [Xi,bf,bQ,sU,FR,hx];rw [aF (run_underlying hu w)];rfl
    ·cases hc
   ·cases hc;simp only [bf,bQ] at hs he;rename_i x z;cases hx:ρ x<;>rw [hx] at he<;>simp [dfe] at he;cases hz:ρ z<;>rw [hz] at he<;>simp [dfe] at he;subst he;refine dG ?_;unfold Builtin.min_;simp only [Xi,bf,bQ,hx,hz];rfl
   ·cases hc;simp only [bf,bQ] at hs he;rename_i x z;cases hx:ρ x<;>rw [hx] at he<;>simp [dfe] at he;cases hz:ρ z<;>rw [hz] at he<;>simp [dfe] at he;subst he;refine dG ?_;unfold Builtin.max_;simp only [Xi,bf,bQ,hx,hz];rfl
   ·cases hc
  | _=>simp at hc
 | _=>rw [ng] at hc;simp [oK] at hc
end Go.Fw
namespace Go.Fw
inductive Eff where
 | det (f:(Nat->AV)->Option (List AV))
 | call (K:FuncId) (sg:aO) (args:(Nat->AV)->Option (List (List A))) (post:List A->List (List A)->(Nat->AV)->Option (List AV))
def Eff.rel (P:aR):Eff->(Nat->AV)->aa AV->Prop
 | .det f,s,v=>f s=some v
 | .call K sg args post,s,v=>∃as res outs,args s=some as/\Good P K sg as res outs/\post res outs s=some v
structure Stp where
 up:List (Nat × TT)
 kl:TT->TT
 rd:List Nat
 eff:Eff
def aC {α:Type} (f:Nat->α):aa (Nat × α)->Nat->α
 | [],t=>f t
 | (d,x)::l,t=>if t=d then x else aC f l t
theorem D7 {α:Type} (f:Nat->α) (d:Nat) (x:α):aC f [(d,x)]=upd f d x:=by funext t;simp [aC,upd]
def d_ (P:aR) (N:Nat) (o:bS) (g:Nat->TT) (S:Stp):Prop:=
 ∀(ac:Nat->Nat->aj) (κ0 κ:aP) (w0 w:aA) (tg:Nat->TT) (sv s:Nat->AV) (a:Act) (v:aa AV) (next:Act->aA->Prop) (Q:Exit->Act->aA->Prop),
  a.tmps.size=N->R ac κ0 w0 κ w N tg sv (gm a)->Le g s tg sv->S.eff.rel P s v ->
  (∀x w' κ' tg' sv',R ac κ0 w0 κ' w' N tg' sv' (gm (a.put o.dst x))->(∀t,tg' t=aC (fun t=>S.kl (tg t)) S.up t)->(∀t,sv' t=aC sv ((S.up.map (·.1)).zip v) t)->next (a.put o.dst x) w') ->
  o.wp P a w next Q
theorem Ki {P:aR} {o:bS} {a:Act} {w w':aA} {next:Act->aA->Prop} {Q:Exit->Act->aA->Prop} {x:aj} (h:(execOp a.eval o).run P w = .ok (.value x) w') (hn:next (a.put o.dst x) w') :
  o.wp P a w next Q:=by
 unfold Oper.wp;rw [h];exact hn
theorem Kj {P:aR} {o:bS} {a:Act} {w w':aA} {next:Act->aA->Prop} {Q:Exit->Act->aA->Prop} (h:(execOp a.eval o).run P w = .ok .skip w') (hn:next (a.put o.dst undef) w') :
  o.wp P a w next Q:=by
 unfold Oper.wp;rw [h];exact hn
def DX.rd:DX->aa Nat
 | .t i=>[i]
 | .c _=>[]
def Sc (f:DF) (Xs:aa DX) (s:Nat->AV):ah (aa AV):=
 match DXs s Xs with
 | some vs=>match dfe f vs with
  | some y=>some [.v [.v y] []]
  | none=>none
 | none=>none
def Stp.set (d:Nat) (tag:TT) (rd:aa Nat) (eff:Eff):Stp:=⟨[(d,tag)],fun T=>T.kill [d] [],rd,eff⟩
def Stp.mv (d:Nat) (srcs:aa Nat) (tag:TT) (rd:aa Nat) (eff:Eff):Stp:=⟨(d,tag)::srcs.map (fun t=>(t,.dead)),fun T=>T.kill (d::srcs) srcs,rd,eff⟩
def aA5 (N:Nat) (o:bS) (S:Stp) (ac:Nat->Nat->aj) (κ0:aP) (w0:aA) (tg:Nat->TT) (sv:Nat->AV) (a:Act) (v:aa AV) (next:Act->aA->Prop):Prop:=
 ∀x w' κ' tg' sv',R ac κ0 w0 κ' w' N tg' sv' (gm (a.put o.dst x))->(∀t,tg' t=aC (fun t=>S.kl (tg t)) S.up t)->(∀t,sv' t=aC sv ((S.up.map (·.1)).zip v) t)->next (a.put o.dst x) w'
section
variable {P:aR} {ac:Nat->Nat->aj} {κ0 κ':aP} {w0 w w':aA} {N:Nat} {o:bS} {tg:Nat->TT} {sv:Nat->AV} {a:Act} {next:Act->aA->Prop} {Q:Exit->Act->aA->Prop} {d:Nat} {tag:TT} {av:AV} {x:aj} {rd srcs:aa Nat} {eff:Eff}
theorem iO (hd:o.dst=some d) (hN:a.tmps.size=N) (hdN:d<N) (fq:(execOp a.eval o).run P w = .ok (.value x) w')
  (hR:R ac κ0 w0 κ' w' N (kI tg d tag) (upd sv d av) (upd (gm a) d x)) (hn:aA5 N o (Stp.set d tag rd eff) ac κ0 w0 tg sv a [av] next):o.wp P a w next Q:=by
 refine Ki fq (hn x w' κ' (kI tg d tag) (upd sv d av) ?_ (fun t => ?_) (fun t => ?_))
 ·rw [hd,qf (by omega)];exact hR
 ·show _=aC _ [(d,tag)] t;rw [D7];rfl
 ·show _=aC sv [(d,av)] t;rw [D7]
theorem Ow (f:Nat->TT) (srcs:aa Nat) (t:Nat):aC f (srcs.map fun t=>(t,TT.dead)) t=if t∈srcs then .dead else f t:=by
 induction srcs with
 | nil=>simp [aC]
 | cons s srcs ih=>
  simp only [bf,aC,aY,ih];by_cases h:t=s
  ·simp [h]
  ·simp [h]
theorem xh (hd:o.dst=some d) (hN:a.tmps.size=N) (hdN:d<N) (fq:(execOp a.eval o).run P w = .ok (.value x) w')
  (hR:R ac κ0 w0 κ' w' N (upd (fun t=>if t∈srcs then .dead else (tg t).kill (d::srcs) srcs) d tag) (upd sv d av) (upd (gm a) d x))
  (hn:aA5 N o (Stp.mv d srcs tag rd eff) ac κ0 w0 tg sv a [av] next):o.wp P a w next Q:=by
 refine Ki fq (hn x w' κ' (upd (fun t=>if t∈srcs then .dead else (tg t).kill (d::srcs) srcs) d tag) (upd sv d av) ?_ (fun t => ?_) (fun t => ?_))
 ·rw [hd,qf (by omega)];exact hR
 ·show _=aC _ ((d,tag)::srcs.map fun t=>(t,.dead)) t;simp only [aC,upd,Ow];rfl
 ·show _=aC sv (((d,tag)::srcs.map fun t=>(t,TT.dead)).map (·.1) |>.zip [av]) t;simp [aC,upd]
end
def wz (P:aR) (N:Nat) (g:Nat->TT) (o:bS):ah Stp:=
 match o.dst,oK P o.op with
 | some d,some (f,xs)=>match Ov g xs with
  | some Xs=>if d<N then some (Stp.set d (.val false [.d]) (Xs.flatMap DX.rd) (.det (Sc f Xs))) else none
  | none=>none
 | _,_=>none
theorem tu {P:aR} {N:Nat} {g:Nat->TT} {o:bS} {S:Stp} (h:wz P N g o=some S):d_ P N o g S:=by
 unfold wz at h;split at h;case h_2=>cases h
 case h_1 d f xs hd hc=>
 split at h;case h_2=>cases h
 case h_1 Xs hX=>
 split at h;case isFalse=>cases h
 case isTrue hdN=>
 cases h;intro ac κ0 κ w0 w tg sv s a v next Q hN hR hL hv hn;simp only [Stp.set,Eff.rel,Sc] at hv;split at hv;case h_2=>cases hv
 case h_1 vs mr=>
 split at hv;case h_2=>cases hv
 case h_1 y hy=>
 cases hv;obtain ⟨e1,e2⟩:=ac7 hR hL hX mr;exact iO hd hN hdN (aoO (y:=y) hc (by rw [e1];exact e2) (by rw [e1];exact hy)) (Oo hR hdN (aA4 e2 hy) (Grows.refl w)) hn
def abT (P:aR):Nat->TypeId->ah (aa CT)
 | 0,_=>none
 | f+1,t=>match P.underlying t with
  | some .bool=>some [.d]
  | some (.int _)=>some [.d]
  | some .string=>some [.d]
  | some (.slice e)=>(abT P f e).map fun c=>[.sl (.own none) c]
  | some (.struct fs)=>fs.toList.foldr (fun fl acc=>match abT P f fl.type,acc with
   | some a,some b=>some (a++b)
   | _,_=>none) (some [])
  | _=>none
def zA:aa CT->aa aj->ah (aa A)
 | [],[]=>some []
 | .d::cs,x::vs=>if sc x then (zA cs vs).map (.v x :: ·) else none
 | .sl _ _::cs,.slice none 0 0::vs=>(zA cs vs).map (.s [] :: ·)
 | _,_=>none
theorem Sg:∀{cs:aa CT} {vs:aa aj} {as:aa A},zA cs vs=some as->ZR cs vs as
 | [],[],as,h=>by simp only [zA,aK] at h;subst h;simp [ZR]
 | .d::cs,x::vs,as,h=>by
  simp only [zA] at h;split at h
  ·rename_i hs;simp only [cO] at h;obtain ⟨as',h',rfl⟩:=h;simp only [ZR];exact ⟨trivial,hs,Sg h'⟩
  ·cases h
 | .sl m e::cs,x::vs,as,h=>by
  unfold zA at h;split at h
  ·rename_i h1 h2;cases h1
  ·rename_i h1 _;cases h1
  ·rename_i h1 h2;cases h1;cases h2;simp only [cO] at h;obtain ⟨as',h',rfl⟩:=h;simp only [ZR];exact ⟨trivial,Sg h'⟩
  ·cases h
 | [],_::_,as,h=>by simp [zA] at h
 | .d::_,[],as,h=>by simp [zA] at h
 | .sl _ _::_,[],as,h=>by simp [zA] at h
structure OX where
 ag:Bool
 cs:List CT
 t:Nat
 own:Bool
 get:(Nat->AV)->Option (List A)
 rd:List Nat
def iM (t:Nat) (s:Nat->AV):ah (aa A):=
 match s t with
 | .v as _=>some as
 | _=>none
def fuel:Nat:=12
def qg (P:aR) (g:Nat->TT) (ty:TypeId) (dummy:Nat):iN->ah OX
 | .tmp t=>match g t with
  | .val ag cs=>some ⟨ag,cs,t,!CT.nowns cs,iM t,[t]⟩
  | .alias ag cs _ _ _ _=>if CT.nowns cs then some ⟨ag,cs,t,false,iM t,[t]⟩ else none
  | _=>none
 | .const v=>match w9 P ty,abT P fuel ty with
  | some ag,some Z=>match cellsOf ag v with
   | some vs=>match zA Z vs with
    | some as=>if h_ Z then some ⟨ag,Z,FB+1+dummy,true,fun _=>some as,[]⟩ else none
    | none=>none
   | none=>none
  | _,_=>none
 | _=>none
theorem aoP {M:aa Nat} {cs:aa CT} (h:CT.mens M cs=false):cs.map (oH M)=cs:=Kg h
section
variable {P:aR} {ac:Nat->Nat->aj} {κ0 κ:aP} {w0 w:aA} {N:Nat} {tg g:Nat->TT} {sv s:Nat->AV} {a:Act}
theorem rT (h:R ac κ0 w0 κ w N tg sv (gm a)) (hL:Le g s tg sv) {ty:TypeId} {dummy:Nat} {x:iN} {X:OX} (hx:qg P g ty dummy x=some X) {as:aa A} (hg:X.get s=some as) :
  ∃vs,cellsOf X.ag (a.eval x)=some vs/\vs.length=X.cs.length/\aB κ w X.cs (X.t,[]) 0 (fun k=>vs.getD k undef) as/\(X.own=false->CT.nowns X.cs=true)/\X.t≠FB /\
   rO ac X.cs (fun k=>vs.getD k undef):=by
 cases x with
 | tmp t=>
  simp only [qg] at hx;split at hx
  ·rename_i ag cs hT;cases hx;obtain ⟨e1,e2⟩:=hL.at hT (by simp);have h1:=h.tr t;rw [e1] at h1;simp only [TR] at h1;obtain ⟨as',vs,g1,g2,g3,g4,g5⟩:=h1;rw [e2] at g1;simp only [iM,g1,aK] at hg;subst hg;refine ⟨vs,g2,g3,g5,fun hn=>by simpa using hn,fun he => ?_,g4⟩;simp only at he;have:=h.out t (by have:=h.nle;omega);rw [e1] at this;cases this
  ·rename_i ag cs r sk off S0 hT;split at hx;case isFalse=>cases hx
   case isTrue hn=>
   cases hx;obtain ⟨e1,e2⟩:=hL.at hT (by simp);have h1:=h.tr t;rw [e1] at h1;simp only [TR] at h1;obtain ⟨as',is,vs,gf,ra,row,g1,g2,g3,g4,g5,_⟩:=h1;rw [e2] at g1;simp only [iM,g1,aK] at hg;subst hg;refine ⟨vs,g2,g3,g5,fun _=>hn,fun he => ?_,?_⟩
   ·simp only at he;have:=h.out t (by have:=h.nle;omega);rw [e1] at this;cases this
   ·intro k j c e hc;have:=nowns_nth hn hc;simp [CT.nown] at this
  ·cases hx
 | const v=>
  simp only [qg] at hx;split at hx;case h_2=>cases hx
  case h_1 ag Z h1 h2=>
  split at hx;case h_2=>cases hx
  case h_1 vs mr=>
  split at hx;case h_2=>cases hx
  case h_1 as' jL=>
  split at hx;case isFalse=>cases hx
  case isTrue Cq=>
  cases hx;simp only [aK] at hg;subst hg;have hz:=Sg jL;exact ⟨vs,mr,D5 hz,IU hz (fun i _=>by simp),fun he=>by simp at he,by simp only;omega,gK Cq⟩
 | global _=>simp [qg] at hx
 | func _=>simp [qg] at hx
where
 nowns_nth:∀{cs:List CT} {k:Nat} {c:CT},CT.nowns cs=true->cs[k]?=some c->c.nown=true
  | c::cs,0,c',h,hc=>by simp at hc;subst hc;simp only [CT.nowns,aM] at h;exact h.1
  | c::cs,k+1,c',h,hc=>by simp only [CT.nowns,aM] at h;exact nowns_nth h.2 (by simpa using hc)
  | [],_,_,_,hc=>by simp at hc
end
end Go.Fw
namespace Go.Fw
section
variable {ac:Nat->Nat->aj} {κ0 κ:aP} {w0 w w':aA} {N:Nat} {tg:Nat->TT} {sv:Nat->AV} {tm:Nat->aj}
theorem azM (h:R ac κ0 w0 κ w N tg sv tm) {d:Nat} (hd:d<N) {ag:Bool} {x:aj} {vs:aa aj} {Z:aa CT} {as:aa A} (hx:cellsOf ag x=some vs) (hz:ZR Z vs as) (hp:h_ Z=true) (hw:Grows w w') :
  R ac κ0 w0 (aW κ (iV d) none) w' N (kI tg d (.val ag Z)) (upd sv d (.v as [])) (upd tm d x):=by
 refine nI h hd hw (fun _ _ h=>by cases h) ?_;simp only [TR,bI];exact ⟨as,vs,rfl,hx,D5 hz,gK hp,IU hz fun i _=>by simp⟩
theorem asb (h:R ac κ0 w0 κ w N tg sv tm) {d:Nat} (hd:d<N) {av:AV} {x:aj} (hw:Grows w w') :
  R ac κ0 w0 (aW κ (iV d) none) w' N (kI tg d .dead) (upd sv d av) (upd tm d x):=
 nI h hd hw (fun _ _ h=>by cases h) (by simp [TR])
end
def gP (t:Nat) (s:Nat->AV):ah (aa AV):=(iM t s).map fun as=>[.v as []]
def zx (t:Nat) (s:Nat->AV):ah (aa AV):=some [s t]
def mvT (N:Nat) (g:Nat->TT) (fG:Bool) (d t:Nat):ah Stp:=
 if d<N/\t≠d then match g t with
  | .val ag cs=>
   if CT.nowns cs then some (Stp.set d (.val ag cs) [t] (.det (gP t)))
   else if fG then
    if CT.lives cs then some (Stp.set d (.alias ag (CT.roizes (t::CT.srcss cs) cs) t [] 0 (t::CT.srcss cs)) [t] (.det (gP t))) else none
   else if CT.mens [t] cs then none else some (Stp.mv d [t] (.val ag cs) [t] (.det (gP t)))
  | .tup ws cs=>if CT.mens [t] cs then none else some (Stp.mv d [t] (.tup ws cs) [t] (.det (gP t)))
  | .alias ag cs r sk off S=>if r≠d/\CT.nowns cs then some (Stp.set d (.alias ag cs r sk off S) [t] (.det (zx t))) else none
  | .ptr r sk off S=>if r≠d then some (Stp.set d (.ptr r sk off S) [t] (.det (zx t))) else none
  | .box _=>some (Stp.set d (.ptr t [] 0 [t]) [] (.det fun _=>some [.p []]))
  | .dead=>none
 else none
def zy (P:aR) (N:Nat) (g:Nat->TT) (fG:Bool) (o:bS):ah Stp:=
 match o.dst,o.op with
 | some d,.move (.tmp t)=>mvT N g fG d t
 | some d,.assign (.tmp t)=>mvT N g fG d t
 | some d,.nilCheck (.tmp t)=>match g t with
  | .ptr _ _ _ _=>mvT N g fG d t
  | .box _=>mvT N g fG d t
  | _=>none
 | some d,.move (.const v)=>cst d v
 | some d,.assign (.const v)=>cst d v
 | _,_=>none
where
 cst (d:Nat) (v:Value):Option Stp:=
  if d<N then match v with
   | .pointer none=>some (Stp.set d .dead [] (.det fun _=>some [.n]))
   | v=>match qg P g o.type 0 (.const v) with
    | some X=>some (Stp.set d (.val X.ag X.cs) [] (.det fun _=>(X.get fun _=>.n).map fun as=>[.v as []]))
    | none=>none
  else none
theorem df {t:Nat} {s:Nat->AV} {as:aa A} (h:iM t s=some as):∃is,s t = .v as is:=by
 unfold iM at h;split at h
 ·rename_i is hs;cases h;exact ⟨_,hs⟩
 ·cases h
theorem Xr {P:aR} {N:Nat} {g:Nat->TT} {fG:Bool} {d t:Nat} {o:bS} {S:Stp} (hd:o.dst=some d) (h:mvT N g fG d t=some S)
  (fq:∀(a:Act) (w:aA),(∀(κ0 κ:aP) (ac:Nat->Nat->aj) (w0:aA) (tg:Nat->TT) (sv s:Nat->AV),R ac κ0 w0 κ w N tg sv (gm a)->Le g s tg sv->(execOp a.eval o).run P w = .ok (.value (gm a t)) w)):d_ P N o g S:=by
 unfold mvT at h;split at h;case isFalse=>cases h
 case isTrue hc=>
 obtain ⟨hdN,fZ⟩:=hc;have bZ:∀{ac κ0 w0 κ w tg sv tm},R ac κ0 w0 κ w N tg sv tm->tg t≠.dead->t<N:=fun hR ht=>by
  apply sW;intro dD;exact ht (hR.out t dD)
 split at h
 ·rename_i ag cs hT;split at h
  ·rename_i gU;cases h;intro ac κ0 κ w0 w tg sv s a v next Q hN hR hL hv hn;simp only [Stp.set,Eff.rel,gP,cO] at hv;obtain ⟨as,hg,rfl⟩:=hv;obtain ⟨e1,e2⟩:=hL.at hT (by simp);have h1:=hR.tr t;rw [e1] at h1;simp only [TR] at h1;obtain ⟨as',vs,g1,_⟩:=h1;obtain ⟨is,hs⟩:=df hg;rw [e2,hs] at g1;cases g1;exact iO hd hN hdN (fq a w _ _ _ _ _ _ _ hR hL) (aAZ hR hdN e1 gU (by rw [e2,hs])) hn
  ·split at h
   ·split at h;case isFalse=>cases h
    case isTrue lW=>
    cases h;intro ac κ0 κ w0 w tg sv s a v next Q hN hR hL hv hn;simp only [Stp.set,Eff.rel,gP,cO] at hv;obtain ⟨as,hg,rfl⟩:=hv;obtain ⟨e1,e2⟩:=hL.at hT (by simp);have h1:=hR.tr t;rw [e1] at h1;simp only [TR] at h1;obtain ⟨as',vs,g1,_⟩:=h1;obtain ⟨is,hs⟩:=df hg;rw [e2,hs] at g1;cases g1;exact iO hd hN hdN (fq a w _ _ _ _ _ _ _ hR hL) (azH hR hdN fZ e1 lW (by rw [e2,hs]) (by simp) (fun r hr=>by simp [hr])) hn
   ·split at h;case isTrue=>cases h
    case isFalse hm=>
    cases h;intro ac κ0 κ w0 w tg sv s a v next Q hN hR hL hv hn;simp only [Stp.mv,Eff.rel,gP,cO] at hv;obtain ⟨as,hg,rfl⟩:=hv;obtain ⟨e1,e2⟩:=hL.at hT (by simp);have h1:=hR.tr t;rw [e1] at h1;simp only [TR] at h1;obtain ⟨as',vs,g1,_⟩:=h1;obtain ⟨is,hs⟩:=df hg;rw [e2,hs] at g1;cases g1;exact xh hd hN hdN (fq a w _ _ _ _ _ _ _ hR hL) (aA0 hR hdN (bZ hR (by simp [e1])) e1 (by simpa using hm) (by rw [e2,hs])) hn
 ·rename_i ws cs hT;split at h;case isTrue=>cases h
  case isFalse hm=>
  cases h;intro ac κ0 κ w0 w tg sv s a v next Q hN hR hL hv hn;simp only [Stp.mv,Eff.rel,gP,cO] at hv;obtain ⟨as,hg,rfl⟩:=hv;obtain ⟨e1,e2⟩:=hL.at hT (by simp);have h1:=hR.tr t;rw [e1] at h1;simp only [TR] at h1;obtain ⟨as',xs,vs,g1,_⟩:=h1;obtain ⟨is,hs⟩:=df hg;rw [e2,hs] at g1;cases g1;exact xh hd hN hdN (fq a w _ _ _ _ _ _ _ hR hL) (azJ hR hdN (bZ hR (by simp [e1])) e1 (by simpa using hm) (by rw [e2,hs])) hn
 ·rename_i ag cs r sk off S0 hT;split at h;case isFalse=>cases h
  case isTrue hr=>
  cases h;intro ac κ0 κ w0 w tg sv s a v next Q hN hR hL hv hn;simp only [Stp.set,Eff.rel,zx,aK] at hv;subst hv;obtain ⟨e1,e2⟩:=hL.at hT (by simp);exact iO hd hN hdN (fq a w _ _ _ _ _ _ _ hR hL) (by rw [<-e2];exact ar5 hR hdN e1 hr.1 hr.2) hn
 ·rename_i r sk off S0 hT;split at h;case isFalse=>cases h
  case isTrue hr=>
  cases h;intro ac κ0 κ w0 w tg sv s a v next Q hN hR hL hv hn;simp only [Stp.set,Eff.rel,zx,aK] at hv;subst hv;obtain ⟨e1,e2⟩:=hL.at hT (by simp);exact iO hd hN hdN (fq a w _ _ _ _ _ _ _ hR hL) (by rw [<-e2];exact azI hR hdN e1 hr) hn
 ·rename_i cs hT;cases h;intro ac κ0 κ w0 w tg sv s a v next Q hN hR hL hv hn;simp only [Stp.set,Eff.rel,aK] at hv;subst hv;obtain ⟨e1,e2⟩:=hL.at hT (by simp);exact iO hd hN hdN (fq a w _ _ _ _ _ _ _ hR hL) (aDS hR hdN fZ e1) hn
 ·cases h
theorem asc {P:aR} {N:Nat} {g:Nat->TT} {o:bS} {d:Nat} {v:aj} {S:Stp} (hd:o.dst=some d) (h:zy.cst P N g o d v=some S)
  (fq:∀(a:Act) (w:aA),(execOp a.eval o).run P w = .ok (.value v) w):d_ P N o g S:=by
 unfold zy.cst at h;split at h;case isFalse=>cases h
 case isTrue hdN=>
 split at h
 ·cases h;intro ac κ0 κ w0 w tg sv s a v next Q hN hR hL hv hn;simp only [Stp.set,Eff.rel,aK] at hv;subst hv;exact iO hd hN hdN (fq a w) (asb hR hdN (Grows.refl w)) hn
 ·split at h;case h_2=>cases h
  case h_1 X hX=>
  cases h;intro ac κ0 κ w0 w tg sv s a v' next Q hN hR hL hv hn;simp only [Stp.set,Eff.rel,cO] at hv;obtain ⟨as,hg,rfl⟩:=hv;simp only [qg] at hX;split at hX;case h_2=>cases hX
  case h_1 ag Z h1 h2=>
  split at hX;case h_2=>cases hX
  case h_1 vs mr=>
  split at hX;case h_2=>cases hX
  case h_1 as' jL=>
  split at hX;case isFalse=>cases hX
  case isTrue Cq=>
  cases hX;simp only [aK] at hg;subst hg;exact iO hd hN hdN (fq a w) (azM hR hdN mr (Sg jL) Cq (Grows.refl w)) hn
theorem Xt {P:aR} {N:Nat} {g:Nat->TT} {fG:Bool} {o:bS} {S:Stp} (h:zy P N g fG o=some S):d_ P N o g S:=by
 unfold zy at h;split at h
 ·rename_i d t hd ho;refine Xr hd h fun a w _ _ _ _ _ _ _ _ _ => ?_
  unfold execOp;rw [ho];rfl
 ·rename_i d t hd ho;refine Xr hd h fun a w _ _ _ _ _ _ _ _ _ => ?_
  unfold execOp;rw [ho];rfl
 ·rename_i d t hd ho;split at h
  ·rename_i r sk off S0 hT;refine Xr hd h fun a w _ _ _ _ tg sv s hR hL => ?_
   obtain ⟨e1,e2⟩:=hL.at hT (by simp);have h1:=hR.tr t;rw [e1] at h1;simp only [TR] at h1;obtain ⟨is,B,O,_,_,_,_,h5⟩:=h1;unfold execOp;rw [ho];have:a.eval (.tmp t)=gm a t:=rfl;simp only [this,h5];rfl
  ·rename_i cs hT;refine Xr hd h fun a w _ _ _ _ tg sv s hR hL => ?_
   obtain ⟨e1,e2⟩:=hL.at hT (by simp);have h1:=hR.tr t;rw [e1] at h1;simp only [TR] at h1;obtain ⟨as,b,_,h5,_⟩:=h1;unfold execOp;rw [ho];have:a.eval (.tmp t)=gm a t:=rfl;simp only [this,h5];rfl
  ·cases h
 ·rename_i d v hd ho;refine asc hd h fun a w => ?_
  unfold execOp;rw [ho];rfl
 ·rename_i d v hd ho;refine asc hd h fun a w => ?_
  unfold execOp;rw [ho];rfl
 ·cases h
end Go.Fw
namespace Go.Fw
structure PX where
 r:Nat
 sk:Sk
 off:Nat
 S:List Nat
 idx:(Nat->AV)->Option (List Nat)
 rd:List Nat
def aoQ (t:Nat) (s:Nat->AV):ah (aa Nat):=
 match s t with
 | .p is=>some is
 | _=>none
def Xu (g:Nat->TT):iN->ah PX
 | .tmp t=>match g t with
  | .ptr r sk off S=>some ⟨r,sk,off,S,aoQ t,[t]⟩
  | .box _=>some ⟨t,[],0,[t],fun _=>some [],[]⟩
  | _=>none
 | _=>none
section
variable {P:aR} {ac:Nat->Nat->aj} {κ0 κ:aP} {w0 w:aA} {N:Nat} {tg g:Nat->TT} {sv s:Nat->AV} {a:Act}
theorem Ox (h:R ac κ0 w0 κ w N tg sv (gm a)) (hL:Le g s tg sv) {x:iN} {X:PX} (hx:Xu g x=some X) {is:aa Nat} (hi:X.idx s=some is) :
  ∃B O,IV κ w tg (gm a) X.r X.sk is X.S B O/\a.eval x = .pointer (some ⟨B,O+X.off,none⟩):=by
 cases x with
 | tmp t=>
  simp only [Xu] at hx;split at hx
  ·rename_i r sk off S hT;cases hx;obtain ⟨e1,e2⟩:=hL.at hT (by simp);simp only [aoQ] at hi;split at hi
   ·rename_i is' hs;cases hi;exact h.pla_ptr e1 (by rw [e2,hs])
   ·cases hi
  ·rename_i cs hT;cases hx;obtain ⟨e1,e2⟩:=hL.at hT (by simp);simp only [aK] at hi;subst hi;obtain ⟨B,h1,h2⟩:=h.pla_box e1;exact ⟨B,0,h1,h2⟩
  ·cases hx
 | _=>simp [Xu] at hx
theorem Bd (hL:Le g s tg sv) {r:Nat} {cs:aa CT} (h:(g r).cts=some cs):(tg r).cts=some cs/\sv r=s r:=by
 have bv:g r≠.dead:=fun he=>by rw [he] at h;simp [TT.cts] at h
 obtain ⟨e1,e2⟩:=hL.at rfl bv;exact ⟨by rw [e1];exact h,e2⟩
theorem R.sv_root {tm:Nat->aj} (h:R ac κ0 w0 κ w N tg sv tm) {r:Nat} {cs:aa CT} (ht:(tg r).cts=some cs):∃ra,sv r = .v ra []:=by
 have h1:=h.tr r;cases hT:tg r<;>rw [hT] at ht h1<;>simp [TT.cts] at ht
 ·simp only [TR] at h1;obtain ⟨as,vs,g1,_⟩:=h1;exact ⟨as,g1⟩
 ·simp only [TR] at h1;obtain ⟨as,b,g1,_⟩:=h1;exact ⟨as,g1⟩
end
def Xv (X:PX) (s:Nat->AV):ah (aa A × aa Nat):=
 match X.idx s,iM X.r s with
 | some is,some ra=>match b_ ra X.sk is with
  | some row=>some (row,is)
  | none=>none
 | _,_=>none
def DR (X:PX) (n:Nat) (al:Bool) (s:Nat->AV):ah (aa AV):=
 match Xv X s with
 | some (row,is)=>some [.v ((row.drop X.off).take n) (if al then is else [])]
 | none=>none
def abU (P:aR) (N:Nat) (g:Nat->TT) (o:bS):ah Stp:=
 match o.dst,o.op with
 | some d,.load t x=>match Xu g x,P.info? t,w9 P t with
  | some X,some i,some ag=>match (g X.r).cts with
   | some cs=>match iF false cs X.sk with
    | some e=>
     let c:=(e.drop X.off).take i.size
     if d<N/\X.off+i.size<=e.length/\CT.lives c=true/\(ag=true\/i.size=1) then
      if CT.nowns c/\h_ c then some (Stp.set d (.val ag c) (X.r::X.rd) (.det (DR X i.size false)))
      else if X.r≠d then
       let S':=X.r::(X.S++CT.srcss c)
       some (Stp.set d (.alias ag (CT.roizes S' c) X.r X.sk X.off S') (X.r::X.rd) (.det (DR X i.size true)))
      else none
     else none
    | none=>none
   | none=>none
  | _,_,_=>none
 | _,_=>none
theorem aoR {X:PX} {s:Nat->AV} {row:aa A} {is:aa Nat} (h:Xv X s=some (row,is)):X.idx s=some is/\∃ra,iM X.r s=some ra/\b_ ra X.sk is=some row:=by
 unfold Xv at h;split at h
 ·rename_i is' ra h1 h2;split at h
  ·rename_i row' h3;cases h;exact ⟨h1,ra,h2,h3⟩
  ·cases h
 ·cases h
theorem aoS {P:aR} {N:Nat} {g:Nat->TT} {o:bS} {S:Stp} (h:abU P N g o=some S):d_ P N o g S:=by
 unfold abU at h;split at h;case h_2=>cases h
 case h_1 d t x hd ho=>
 split at h;case h_2=>cases h
 case h_1 X i ag hX hi N_=>
 split at h;case h_2=>cases h
 case h_1 cs pR=>
 split at h;case h_2=>cases h
 case h_1 e he=>
 simp only at h;split at h;case isFalse=>cases h
 case isTrue hc=>
 obtain ⟨hdN,hn,lW,arF⟩:=hc;have ay4:ag=false->i.size=1:=fun hf=>by rcases arF with h1|h1<;>simp_all
 -- what the load runs to
 have main:∀(ac:Nat->Nat->aj) (κ0 κ:aP) (w0 w:aA) (tg:Nat->TT) (sv s:Nat->AV) (a:Act) (row:aa A) (is:aa Nat),R ac κ0 w0 κ w N tg sv (gm a)->Le g s tg sv->Xv X s=some (row,is) ->
   ∃B O v ra,IV κ w tg (gm a) X.r X.sk is X.S B O/\(tg X.r).cts=some cs/\sv X.r = .v ra []/\b_ ra X.sk is=some row/\(execOp a.eval o).run P w = .ok (.value v) w /\
    (ag=true->v = .agg ((List.range i.size).map fun k=>cellD w B (O+X.off+k)).toArray)/\(ag=false->v=cellD w B (O+X.off)/\i.size=1):=by
  intro ac κ0 κ w0 w tg sv s a row is hR hL hlk;obtain ⟨Am,ra,BN,hlk⟩:=aoR hlk;obtain ⟨B,O,hp,ko⟩:=Ox hR hL hX Am;obtain ⟨sN,jJ⟩:=Bd hL pR;obtain ⟨ra',yQ⟩:=hR.sv_root sN;obtain ⟨is',iy⟩:=df BN;rw [jJ,iy] at yQ;cases yQ;have pM:sv X.r = .v ra []:=by rw [jJ,iy]
  obtain ⟨oo,p,j,_,FF,_⟩:=hR.row sN pM hp he hlk;obtain ⟨v,fq,h1,h0⟩:=Xk (P:=P) hi N_ ay4 (b:=B) (o:=O+X.off) (w:=w) fun k hk1 hk2=>FF k (by omega) (by omega)
  refine ⟨B,O,v,ra,hp,sN,pM,hlk,?_,h1,fun hf=>⟨h0 hf,ay4 hf⟩⟩;unfold execOp;rw [ho];simp only;exact dG (by rw [ko];exact fq)
 split at h
 ·rename_i hnn;cases h;intro ac κ0 κ w0 w tg sv s a v next Q hN hR hL hv bT;simp only [Stp.set,Eff.rel,DR] at hv;split at hv;case h_2=>cases hv
  case h_1 row is hlk=>
  cases hv;obtain ⟨B,O,v,ra,hp,sN,pM,axq,fq,h1,h0⟩:=main _ _ _ _ _ _ _ _ _ _ _ hR hL hlk;exact iO hd hN hdN fq (aA2 hR hdN sN pM hp he axq hn hnn.1 hnn.2 h1 h0 lW) bT
 ·split at h;case isFalse=>cases h
  case isTrue FF=>
  cases h;intro ac κ0 κ w0 w tg sv s a v next Q hN hR hL hv bT;simp only [Stp.set,Eff.rel,DR] at hv;split at hv;case h_2=>cases hv
  case h_1 row is hlk=>
  cases hv;obtain ⟨B,O,v,ra,hp,sN,pM,axq,fq,h1,h0⟩:=main _ _ _ _ _ _ _ _ _ _ _ hR hL hlk;exact iO hd hN hdN fq (azL hR hdN FF sN pM hp he axq hn h1 h0 lW (by simp) (fun q hq=>by simp [hq]) (fun q hq=>by simp [hq])) bT
def Xw (X:PX) (s:Nat->AV):ah (aa AV):=(X.idx s).map fun is=>[.p is]
def Vu (P:aR) (N:Nat) (g:Nat->TT) (o:bS):ah Stp:=
 match o.dst,o.op with
 | some d,.fieldAddr st x f=>match Xu g x,P.underlying st with
  | some X,some (.struct fs)=>match fs[f]? with
   | some fi=>match P.info? fi.type with
    | some i=>if d<N/\i.size≠0/\X.r≠d then some (Stp.set d (.ptr X.r X.sk (X.off+fi.offset) X.S) X.rd (.det (Xw X))) else none
    | none=>none
   | none=>none
  | _,_=>none
 | _,_=>none
theorem akM {P:aR} {N:Nat} {g:Nat->TT} {o:bS} {S:Stp} (h:Vu P N g o=some S):d_ P N o g S:=by
 unfold Vu at h;split at h;case h_2=>cases h
 case h_1 d st x f hd ho=>
 split at h;case h_2=>cases h
 case h_1 X fs hX zk=>
 split at h;case h_2=>cases h
 case h_1 fi hfi=>
 split at h;case h_2=>cases h
 case h_1 i hi=>
 split at h;case isFalse=>cases h
 case isTrue hc=>
 cases h;intro ac κ0 κ w0 w tg sv s a v next Q hN hR hL hv bT;simp only [Stp.set,Eff.rel,Xw,cO] at hv;obtain ⟨is,Am,rfl⟩:=hv;obtain ⟨B,O,hp,ko⟩:=Ox hR hL hX Am;refine iO hd hN hc.1 (w':=w) (x:=.pointer (some ⟨B,O+(X.off+fi.offset),none⟩)) ?_ (agY hR hc.1 hc.2.2 hp) bT;unfold execOp;rw [ho];simp only;refine dG ?_;rw [ko,akJ zk hfi hi hc.2.1,jm]
structure SX where
 r:Nat
 sk:Sk
 c:Nat
 S:List Nat
 e:List CT
 t:Nat
def slX (g:Nat->TT):iN->ah SX
 | .tmp t=>match g t with
  | .val false [.sl (.own _) e]=>some ⟨t,[],0,[t],e,t⟩
  | .val false [.sl (.ro S) e]=>some ⟨t,[],0,S,e,t⟩
  | .alias false [.sl (.ro S0) e] r sk off S=>if S0.all (S.contains ·) then some ⟨r,sk,off,S,e,t⟩ else none
  | _=>none
 | _=>none
def vI (t:Nat) (s:Nat->AV):ah (aa (aa A) × aa Nat):=
 match s t with
 | .v [.s xs] is=>some (xs,is)
 | _=>none
def toN:aj->ah Nat
 | .int _ n=>if 0<=n then some n.toNat else none
 | _=>none
def Kk (X:SX) (I:DX) (s:Nat->AV):ah (aa AV):=
 match vI X.t s,I.get s with
 | some (xs,is),some v=>match toN v with
  | some i=>if i<xs.length then some [.p (is++[i])] else none
  | none=>none
 | _,_=>none
def Vv (P:aR) (N:Nat) (g:Nat->TT) (o:bS):ah Stp:=
 match o.dst,o.op with
 | some d,.indexAddr st x ix=>match slX g x,nL g ix,P.underlying st with
  | some X,some I,some (.slice et)=>match P.info? et with
   | some i=>if d<N/\X.r≠d/\i.size=X.e.length then some (Stp.set d (.ptr X.r (X.sk++[(X.c,X.e.length)]) 0 X.S) (X.t::I.rd) (.det (Kk X I))) else none
   | none=>none
  | _,_,_=>none
 | _,_=>none
section
variable {P:aR} {ac:Nat->Nat->aj} {κ0 κ:aP} {w0 w:aA} {N:Nat} {tg g:Nat->TT} {sv s:Nat->AV} {a:Act}
theorem aA6 (h:R ac κ0 w0 κ w N tg sv (gm a)) (hL:Le g s tg sv) {x:iN} {X:SX} (hx:slX g x=some X) {xs:aa (aa A)} {is:aa Nat} (hg:vI X.t s=some (xs,is)) {i:Nat} (hi:i<xs.length) (n:Nat) :
  ∃b o cap,a.eval x = .slice (some ⟨b,o,none⟩) xs.length cap/\IV κ w tg (gm a) X.r (X.sk++[(X.c,n)]) (is++[i]) X.S b (o+i*n):=by
 cases x with
 | tmp t=>
  have ko:a.eval (.tmp t)=gm a t:=rfl;have hgs:∀t,vI t s=some (xs,is)->s t = .v [.s xs] is:=fun t ht=>by
   unfold vI at ht;split at ht
   ·rename_i xs' is' hs;cases ht;exact hs
   ·cases ht
  simp only [slX] at hx;split at hx
  ·rename_i k e hT;cases hx;obtain ⟨e1,e2⟩:=hL.at hT (by simp);have hs:=hgs t hg;have h1:=h.tr t;rw [e1] at h1;simp only [TR] at h1;obtain ⟨as,vs,g1,_⟩:=h1;rw [e2,hs] at g1;cases g1;rw [ko];exact h.pla_val e1 (.inr ⟨⟨_,rfl⟩,by simp⟩) (by rw [e2,hs]) hi n
  ·rename_i S e hT;cases hx;obtain ⟨e1,e2⟩:=hL.at hT (by simp);have hs:=hgs t hg;have h1:=h.tr t;rw [e1] at h1;simp only [TR] at h1;obtain ⟨as,vs,g1,_⟩:=h1;rw [e2,hs] at g1;cases g1;rw [ko];exact h.pla_val e1 (.inl ⟨_,rfl,fun r hr=>hr⟩) (by rw [e2,hs]) hi n
  ·rename_i S0 e r sk off S hT;split at hx;case isFalse=>cases hx
   case isTrue hS=>
   cases hx;obtain ⟨e1,e2⟩:=hL.at hT (by simp);have hs:=hgs t hg;rw [ko];exact h.pla_alias e1 (fun r hr=>by simpa using (bW.1 hS) r hr) (by rw [e2,hs]) hi n
  ·cases hx
 | _=>simp [slX] at hx
end
theorem Vw {v:aj} {n:Nat} (h:toN v=some n):∃k m,v = .int k m/\0<=m/\n=m.toNat:=by
 unfold toN at h;split at h
 ·split at h
  ·cases h;exact ⟨_,_,rfl,by assumption,rfl⟩
  ·cases h
 ·cases h
theorem akN {P:aR} {N:Nat} {g:Nat->TT} {o:bS} {S:Stp} (h:Vv P N g o=some S):d_ P N o g S:=by
 unfold Vv at h;split at h;case h_2=>cases h
 case h_1 d st x ix hd ho=>
 split at h;case h_2=>cases h
 case h_1 X I et hX hI jG=>
 split at h;case h_2=>cases h
 case h_1 i hi=>
 split at h;case isFalse=>cases h
 case isTrue hc=>
 obtain ⟨hdN,hr,dM⟩:=hc;cases h;intro ac κ0 κ w0 w tg sv s a v next Q hN hR hL hv bT;simp only [Stp.set,Eff.rel,Kk] at hv;split at hv;case h_2=>cases hv
 case h_1 xs is vi hS hv'=>
 split at hv;case h_2=>cases hv
 case h_1 n hn=>
 split at hv;case isFalse=>cases hv
 case isTrue bZ=>
 cases hv;obtain ⟨k,m,rfl,hm0,rfl⟩:=Vw hn;obtain ⟨e1,_⟩:=vH hR hL hI hv';obtain ⟨b,oo,cap,ko,hp⟩:=aA6 hR hL hX hS bZ X.e.length;refine iO hd hN hdN (w':=w) (x:=.pointer (some ⟨b,(oo+m.toNat*X.e.length)+0,none⟩)) ?_ (agY hR hdN hr hp) bT;unfold execOp;rw [ho];simp only;refine dG ?_;rw [ko,e1,run_indexAt jG hi hm0 (by omega),dM,rJ]
theorem vJ {ag:Bool} {x:aj} {vs:aa aj} (h:cellsOf ag x=some vs):x.cells.toList=vs:=by
 unfold cellsOf at h;split at h
 ·cases h;rfl
 ·cases h
 ·cases h
 ·cases h
 ·cases h;rename_i h1 h2;cases x<;>first
   | rfl
   | (exact absurd rfl (h1 _))
def dP (X:OX):aa Nat:=if X.own then [X.t] else []
def abV (X:OX) (s:Nat->AV):ah (aa AV):=(X.get s).map fun as=>[.v as []]
def Xx (P:aR) (N:Nat) (g:Nat->TT) (o:bS):ah Stp:=
 match o.dst,o.op with
 | some d,.box t x=>match qg P g t 0 x with
  | some X=>if d<N/\CT.mens (dP X) X.cs=false then some (Stp.mv d (dP X) (.box X.cs) X.rd (.det (abV X))) else none
  | none=>none
 | some d,.alloc t=>match P.info? t with
  | some i=>match i.zero with
   | some z=>match qg P g t d (.const z) with
    | some X=>if d<N/\CT.mens (dP X) X.cs=false then some (Stp.mv d (dP X) (.box X.cs) X.rd (.det (abV X))) else none
    | none=>none
   | none=>none
  | none=>none
 | _,_=>none
theorem IY {P:aR} {ac:Nat->Nat->aj} {κ0 κ:aP} {w0 w:aA} {N:Nat} {tg g:Nat->TT} {sv s:Nat->AV} {a:Act} (h:R ac κ0 w0 κ w N tg sv (gm a)) (hL:Le g s tg sv) {ty:TypeId} {dummy:Nat} {x:iN} {X:OX}
  (hx:qg P g ty dummy x=some X) {as:aa A} (hg:X.get s=some as) {srcs:aa Nat} (hs:X.own=true->X.t∈srcs) (hm:CT.mens srcs X.cs=false) :
  ∃vs,cellsOf X.ag (a.eval x)=some vs/\Part κ w srcs X.t X.cs vs as/\rO ac X.cs (fun k=>vs.getD k undef):=by
 obtain ⟨vs,h1,h2,h3,h4,h5,h6⟩:=rT h hL hx hg;refine ⟨vs,h1,⟨h3,h2,?_,hm⟩,h6⟩;cases ho:X.own with
 | true=>exact .inl (hs ho)
 | false=>exact .inr (h4 ho)
theorem ase {P:aR} {N:Nat} {g:Nat->TT} {o:bS} {S:Stp} (h:Xx P N g o=some S):d_ P N o g S:=by
 have fbs:∀{x:iN} {t:TypeId} {dm:Nat} {X:OX},qg P g t dm x=some X->∀(ac:Nat->Nat->aj) (κ0 κ:aP) (w0 w:aA) (tg:Nat->TT) (sv s:Nat->AV) (a:Act) (as:aa A),R ac κ0 w0 κ w N tg sv (gm a)->Le g s tg sv->X.get s=some as->FB∉dP X:=by
  intro x t dm X hX ac κ0 κ w0 w tg sv s a as hR hL hg;obtain ⟨_,_,_,_,_,h5,_⟩:=rT hR hL hX hg;unfold dP;split
  ·simpa using fun he=>h5 he.symm
  ·simp
 have main:∀{x:iN} {t:TypeId} {dm:Nat} {X:OX} {d:Nat},o.dst=some d->qg P g t dm x=some X->d<N->CT.mens (dP X) X.cs=false ->
   (∀(a:Act) (w:aA),(execOp a.eval o).run P w = .ok (.value (.pointer (some ⟨w.heap.size,0,none⟩))) (gu w (a.eval x).cells t))->d_ P N o g (Stp.mv d (dP X) (.box X.cs) X.rd (.det (abV X))):=by
  intro x t dm X d hd hX hdN hm fq ac κ0 κ w0 w tg sv s a v next Q hN hR hL hv bT;simp only [Stp.mv,Eff.rel,abV,cO] at hv;obtain ⟨as,hg,rfl⟩:=hv;obtain ⟨vs,h1,h2,h3⟩:=IY hR hL hX hg (srcs:=dP X) (fun ho=>by simp [dP,ho]) hm;exact xh hd hN hdN (fq a w) (aDT hR hdN (fbs hX _ _ _ _ _ _ _ _ _ _ hR hL hg) h2 h3 (vJ h1) t) bT
 unfold Xx at h;split at h
 ·rename_i d t x hd ho;split at h;case h_2=>cases h
  case h_1 X hX=>
  split at h;case isFalse=>cases h
  case isTrue hc=>
  cases h;refine main hd hX hc.1 hc.2 fun a w => ?_
  unfold execOp;rw [ho];simp only;exact dG (azF t _ w)
 ·rename_i d t hd ho;split at h;case h_2=>cases h
  case h_1 i hi=>
  split at h;case h_2=>cases h
  case h_1 z hz=>
  split at h;case h_2=>cases h
  case h_1 X hX=>
  split at h;case isFalse=>cases h
  case isTrue hc=>
  cases h;refine main hd hX hc.1 hc.2 fun a w => ?_
  unfold execOp;rw [ho];simp only;exact dG (ar2 hi hz w)
 ·cases h
end Go.Fw
namespace Go.Fw
theorem Vx {κ:aP} {w:aA} {p:Pl} {get:Nat->aj}:∀{cs:aa CT} {j:Nat} {as:aa A},qL cs=true->aB κ w cs p j get as ->
  as=((List.range cs.length).map fun k=>get (j+k)).map .v/\∀k,k<cs.length->sc (get (j+k))=true
 | [],_,[],_,_=>by simp
 | [],_,_::_,_,h=>by simp [aB] at h
 | _::_,_,[],_,h=>by simp [aB] at h
 | c::cs,j,a::as,hd,h=>by
  simp only [qL,DV,aM] at hd;cases c with
  | sl m e=>simp at hd
  | d=>
   cases a with
   | s xs=>simp [aB,RC] at h
   | v y=>
    simp only [aB,RC] at h;have ih:=Vx (j:=j+1) (by simpa [qL] using hd.2) h.2;obtain ⟨⟨h1,h2⟩,_⟩:=h;subst h1;refine ⟨?_,fun k hk => ?_⟩
    ·rw [bA,List.range_succ_eq_map];simp only [bf,wX,rJ];congr 1;conv=>lhs;rw [ih.1]
     simp only [wX];apply J6;intro k hk;simp only [Function.comp];rw [show j+1+k=j+(k+1) from by omega]
    ·cases k with
     | zero=>simpa using h2
     | succ k=>
      have:=ih.2 k (by simpa using hk);rw [show j+(k+1)=j+1+k from by omega];exact this
theorem azN {x:aj} (h:sc x=true):rP x=true:=by cases x<;>simp_all [sc,rP]
theorem Kl {κ:aP} {w:aA} {p:Pl} {get:Nat->aj} {cs:aa CT} {j:Nat} {as:aa A} (hl:CT.lives cs=true) (h:aB κ w cs p j get as) (k:Nat) (hk:k<cs.length):rP (get (j+k))=true:=by
 have ha:k<as.length:=by rw [dH h];exact hk
 exact IW (rQ hl (aZ hk)) (gZ h (aZ hk) (aZ ha))
theorem Vy {vs:aa aj} {cs:aa CT} (hl:vs.length=cs.length) (h:∀k,k<cs.length->rP (vs.getD k undef)=true):vs.all rP=true:=by
 rw [bW];intro x hx;obtain ⟨k,hk,rfl⟩:=CV hx;have:=h k (by omega);simpa [dA,aZ hk] using this
def nX (X:PX) (V:OX) (s:Nat->AV):ah (aa AV):=
 match X.idx s,iM X.r s,V.get s with
 | some is,some ra,some as=>match b_ ra X.sk is with
  | some row=>some [.v (lJ ra X.sk is (splice row X.off as)) []]
  | none=>none
 | _,_,_=>none
def zz (P:aR) (N:Nat) (g:Nat->TT) (o:bS):ah Stp:=
 match o.dst,o.op with
 | none,.store t p x=>match Xu g p,qg P g t 0 x,P.info? t with
  | some X,some V,some i=>match (g X.r).cts with
   | some cs=>match iF true cs X.sk with
    | some e=>
     if X.r<N/\V.cs.length=i.size/\X.off+V.cs.length<=e.length/\CT.lives V.cs=true then
      if qL ((e.drop X.off).take V.cs.length)=true/\qL V.cs=true then
       if CT.mens [X.r] cs=false then some ⟨[(X.r,g X.r)],fun T=>T.killD X.r (if X.sk=[] then [] else [X.r]),X.r::(X.rd++V.rd),.det (nX X V)⟩ else none
      else match X.sk,g X.r with
       | [],.box cr=>if X.r∉dP V/\CT.mens (dP V) cr=false/\CT.mens (dP V) V.cs=false/\h_ V.cs=true then
         some ⟨(X.r,.box (splice cr X.off V.cs))::(dP V).map (fun t=>(t,.dead)),fun T=>T.killS X.r (X.r::dP V) (dP V),X.r::(X.rd++V.rd),.det (nX X V)⟩ else none
       | _,_=>none
     else none
    | none=>none
   | none=>none
  | _,_,_=>none
 | _,_=>none
theorem D8 (a:Act) (x:aj):a.put none x=a:=rfl
theorem akO {P:aR} {N:Nat} {g:Nat->TT} {o:bS} {S:Stp} (h:zz P N g o=some S):d_ P N o g S:=by
 unfold zz at h;split at h;case h_2=>cases h
 case h_1 t p x hd ho=>
 split at h;case h_2=>cases h
 case h_1 X V i hX hV hi=>
 split at h;case h_2=>cases h
 case h_1 cs pR=>
 split at h;case h_2=>cases h
 case h_1 e he=>
 split at h;case isFalse=>cases h
 case isTrue hc=>
 obtain ⟨sM,dM,yR,lW⟩:=hc;split at h
 ·rename_i hD;split at h;case isFalse=>cases h
  case isTrue hm=>
  cases h;intro ac κ0 κ w0 w tg sv s a v next Q hN hR hL hv bT;simp only [Eff.rel,nX] at hv;split at hv;case h_2=>cases hv
  case h_1 is ra as Am BN jL=>
  split at hv;case h_2=>cases hv
  case h_1 row cZ=>
  cases hv;obtain ⟨B,O,hp,ko⟩:=Ox hR hL hX Am;obtain ⟨sN,jJ⟩:=Bd hL pR;obtain ⟨ra',yQ⟩:=hR.sv_root sN;obtain ⟨is',iy⟩:=df BN;rw [jJ,iy] at yQ;cases yQ;have pM:sv X.r = .v ra []:=by rw [jJ,iy]
  obtain ⟨vs,h1,h2,h3,_⟩:=rT hR hL hV jL;obtain ⟨akj,BP⟩:=Vx hD.2 h3;simp only [cB] at akj BP;have mr:(List.range V.cs.length).map (fun k=>vs.getD k undef)=vs:=by
   apply R6
   ·simp [h2]
   ·intro k hk mR;simp [dA,aZ mR]
  rw [mr] at akj;have Ao:vs.all sc=true:=by
   rw [bW];intro y hy;obtain ⟨k,hk,rfl⟩:=CV hy;have:=BP k (by omega);simpa [dA,aZ hk] using this
  have key:=avX hR sM sN pM hp he cZ (off:=X.off) (ys:=vs) (by omega) (by rw [h2];exact hD.1) Ao hm rfl;have bv:g X.r≠.dead:=fun hg=>by rw [hg] at pR;simp [TT.cts] at pR
  obtain ⟨e1,e2⟩:=hL.at rfl bv;refine Kj (w':=bO w B (O+X.off) vs) ?_ (bT undef _ κ (upd (fun t=>(tg t).killD X.r (if X.sk=[] then [] else [X.r])) X.r (tg X.r)) (upd sv X.r (.v (lJ ra X.sk is (splice row X.off as)) [])) ?_ (fun u => ?_) (fun u => ?_))
  ·unfold execOp;rw [ho];simp only;have jK:=vJ h1;have:=Au (P:=P) (t:=t) (i:=i) (b:=B) (o:=O+X.off) (v:=a.eval x) (w:=w) hi (by rw [<-RY,jK,h2,dM]) (by rw [jK];rw [bW] at Ao ⊢;exact fun y hy=>azN (Ao y hy)) (by rw [<-dM,<-h2];exact key.1);rw [ko,aF this,jK];rfl
  ·rw [hd,D8,akj];exact key.2
  ·show _=aC _ [(X.r,g X.r)] u;rw [D7,e1]
  ·show _=aC sv [(X.r,_)] u;rw [D7]
 ·split at h;case h_2=>cases h
  case h_1 cr ow IJ=>
  split at h;case isFalse=>cases h
  case isTrue hc=>
  obtain ⟨lG,hmr,hmv,jy⟩:=hc;cases h;intro ac κ0 κ w0 w tg sv s a v next Q hN hR hL hv bT;simp only [Eff.rel,nX] at hv;split at hv;case h_2=>cases hv
  case h_1 is ra as Am BN jL=>
  split at hv;case h_2=>cases hv
  case h_1 row cZ=>
  cases hv;obtain ⟨B,O,hp,ko⟩:=Ox hR hL hX Am;obtain ⟨sN,jJ⟩:=Bd hL pR;obtain ⟨ra',yQ⟩:=hR.sv_root sN;obtain ⟨is',iy⟩:=df BN;rw [jJ,iy] at yQ;cases yQ;have pM:sv X.r = .v ra []:=by rw [jJ,iy]
  obtain ⟨vs,h1,h2,h3⟩:=IY hR hL hV jL (srcs:=dP V) (fun ho=>by simp [dP,ho]) hmv;obtain ⟨_,_,_,_,_,qy,_⟩:=rT hR hL hV jL;obtain ⟨e1,e2⟩:=hL.at IJ (by simp);have qB:cs=cr:=by rw [IJ] at pR;simpa [TT.cts] using pR.symm
  subst qB;rw [ow] at he cZ;simp only [iF,aK] at he;subst he;have aGm:is=[]/\row=ra:=by
   cases is with
   | nil=>simp only [b_,aK] at cZ;exact ⟨rfl,cZ.symm⟩
   | cons=>simp [b_] at cZ
  obtain ⟨rfl,rfl⟩:=aGm;obtain ⟨B',hB',hwr,jA⟩:=ag0 hR sM e1 pM (srcs:=dP V) (by unfold dP;split<;>simp;exact fun he=>qy he.symm) lG h2 yR hmr jy;have arG:=hp.addr;rw [ow,e1,hB'] at arG;simp only [iH,rb,dx,wk,aK,bU] at arG;obtain ⟨rfl,rfl⟩:=arG;refine Kj (w':=bO w B' X.off vs) ?_ (bT undef _ _ _ (upd sv X.r (.v (lJ row X.sk [] (splice row X.off as)) [])) (by rw [hd,D8,ow];exact jA) (fun u => ?_) (fun u => ?_))
  ·unfold execOp;rw [ho];simp only;have jK:=vJ h1;have bJ:=h2.len;have yS:=Vy bJ fun k hk=>by
    have:=Kl lW h2.row k hk;simpa using this
   have:=Au (P:=P) (t:=t) (i:=i) (b:=B') (o:=X.off) (v:=a.eval x) (w:=w) hi (by rw [<-RY,jK,bJ,dM]) (by rw [jK];exact yS) (by rw [<-dM,<-bJ];exact hwr);rw [ko];simp only [cB];rw [aF this,jK];rfl
  ·show _=aC _ ((X.r,TT.box (splice cs X.off V.cs))::(dP V).map fun t=>(t,TT.dead)) u;simp only [aC,upd,Ow]
  ·show _=aC sv ((((X.r,TT.box (splice cs X.off V.cs))::(dP V).map fun t=>(t,TT.dead)).map (·.1)).zip [_]) u;simp [aC,upd]
end Go.Fw
namespace Go.Fw
def aoT (g:Nat->TT):iN->ah Nat
 | .tmp t=>match g t with
  | .val false [.sl (.own _) _]=>some t
  | .val false [.sl (.ro _) _]=>some t
  | .alias false [.sl (.ro _) _] _ _ _ _=>some t
  | _=>none
 | _=>none
theorem IZ {κ:aP} {w:aA} {m:Md} {e:aa CT} {p:Pl} {x:aj} {xs:aa (aa A)} (hm:m≠.dead) (h:RC κ w (.sl m e) p x (.s xs)):∃ao cap,x = .slice ao xs.length cap:=by
 cases m with
 | own k=>simp only [RC] at h;obtain ⟨ao,cap,h,_⟩:=h;exact ⟨ao,cap,h⟩
 | ro S=>simp only [RC] at h;obtain ⟨ao,cap,h,_⟩:=h;exact ⟨ao,cap,h⟩
 | dead=>exact absurd rfl hm
theorem wB {t:Nat} {s:Nat->AV} {xs:aa (aa A)} {is:aa Nat} (h:vI t s=some (xs,is)):s t = .v [.s xs] is:=by
 unfold vI at h;split at h
 ·rename_i xs' is' hs;cases h;exact hs
 ·cases h
theorem azO {ac:Nat->Nat->aj} {κ0 κ:aP} {w0 w:aA} {N:Nat} {tg g:Nat->TT} {sv s:Nat->AV} {a:Act} (h:R ac κ0 w0 κ w N tg sv (gm a)) (hL:Le g s tg sv) {x:iN} {t:Nat}
  (hx:aoT g x=some t) {xs:aa (aa A)} {is:aa Nat} (hg:vI t s=some (xs,is)):∃ao cap,a.eval x = .slice ao xs.length cap:=by
 cases x with
 | tmp u=>
  have hs:=wB hg;have ko:a.eval (.tmp u)=gm a u:=rfl;have mr:∀{x:aj} {vs:aa aj},cellsOf false x=some vs->vs=[x]:=fun {x vs} h=>by
   cases x<;>simp [cellsOf] at h<;>exact h.symm
  rw [ko];simp only [aoT] at hx;split at hx
  ·rename_i k e hT;cases hx;obtain ⟨e1,e2⟩:=hL.at hT (by simp);have h1:=h.tr t;rw [e1] at h1;simp only [TR] at h1;obtain ⟨as,vs,g1,g2,g3,_,g5⟩:=h1;rw [e2,hs] at g1;cases g1;have:=mr g2;subst this;simp only [aB] at g5;exact IZ (by simp) g5.1
  ·rename_i S e hT;cases hx;obtain ⟨e1,e2⟩:=hL.at hT (by simp);have h1:=h.tr t;rw [e1] at h1;simp only [TR] at h1;obtain ⟨as,vs,g1,g2,g3,_,g5⟩:=h1;rw [e2,hs] at g1;cases g1;have:=mr g2;subst this;simp only [aB] at g5;exact IZ (by simp) g5.1
  ·rename_i S e r sk off S' hT;cases hx;obtain ⟨e1,e2⟩:=hL.at hT (by simp);have h1:=h.tr t;rw [e1] at h1;simp only [TR] at h1;obtain ⟨as,is',vs,_,_,_,g1,g2,g3,_,g5,_⟩:=h1;rw [e2,hs] at g1;cases g1;have:=mr g2;subst this;simp only [aB] at g5;exact IZ (by simp) g5.1
  ·cases hx
 | _=>simp [aoT] at hx
def Xy (t:Nat) (s:Nat->AV):ah (aa AV):=
 match vI t s with
 | some (xs,_)=>some [.v [.v (.int .i64 xs.length)] []]
 | none=>none
def ag2 (P:aR) (N:Nat) (g:Nat->TT) (o:bS):ah Stp:=
 match o.dst,o.op with
 | some d,.call c=>match c.callee,c.args.toList,c.argTypes.toList with
  | .builtin .len,[x],[ty]=>match P.underlying ty,aoT g x with
   | some (.slice _),some t=>if d<N then some (Stp.set d (.val false [.d]) [t] (.det (Xy t))) else none
   | _,_=>none
  | _,_,_=>none
 | _,_=>none
theorem asf {P:aR} {N:Nat} {g:Nat->TT} {o:bS} {S:Stp} (h:ag2 P N g o=some S):d_ P N o g S:=by
 unfold ag2 at h;split at h;case h_2=>cases h
 case h_1 d c hd ho=>
 obtain ⟨callee,⟨args⟩,⟨ats⟩⟩:=c;simp only at h;split at h;case h_2=>cases h
 case h_1 _ _ _ x ty=>
 split at h;case h_2=>cases h
 case h_1 et t hty hx=>
 split at h;case isFalse=>cases h
 case isTrue hdN=>
 cases h;intro ac κ0 κ w0 w tg sv s a v next Q hN hR hL hv bT;simp only [Stp.set,Eff.rel,Xy] at hv;split at hv;case h_2=>cases hv
 case h_1 xs is hs=>
 cases hv;obtain ⟨ao,cap,ko⟩:=azO hR hL hx hs;obtain ⟨cs,pO⟩:=D6 (ρ:=a.eval) ho;refine iO hd hN hdN (w':=w) (x:=.int .i64 xs.length) ?_ (Oo hR hdN rfl (Grows.refl w)) bT;rw [pO];refine dG ?_;unfold Builtin.len_;simp only [Xi,bf,bQ,sU,FR,ko];rw [aF (run_underlying hty w)];rfl
mutual
def CT.beq:CT->CT->Bool
 | .d,.d=>true
 | .sl m e,.sl m' e'=>decide (m=m')&&CT.beqs e e'
 | _,_=>false
def CT.beqs:aa CT->aa CT->Bool
 | [],[]=>true
 | c::cs,c'::cs'=>c.beq c'&&CT.beqs cs cs'
 | _,_=>false
end
mutual
theorem CT.beq_eq:∀{c c':CT},c.beq c'=true->c=c'
 | .d,.d,_=>rfl
 | .sl m e,.sl m' e',h=>by
  simp only [CT.beq,aM,decide_eq_true_eq] at h;rw [h.1,CT.beqs_eq h.2]
 | .d,.sl _ _,h=>by simp [CT.beq] at h
 | .sl _ _,.d,h=>by simp [CT.beq] at h
theorem CT.beqs_eq:∀{cs cs':aa CT},CT.beqs cs cs'=true->cs=cs'
 | [],[],_=>rfl
 | c::cs,c'::cs',h=>by
  simp only [CT.beqs,aM] at h;rw [CT.beq_eq h.1,CT.beqs_eq h.2]
 | [],_::_,h=>by simp [CT.beqs] at h
 | _::_,[],h=>by simp [CT.beqs] at h
end
mutual
def CT.le:CT->CT->Bool
 | .d,.d=>true
 | .sl m e,.sl m' e'=>match m,m' with
  | _,.dead=>true
  | .own p,.own p'=>(decide (p'=none) || decide (p=p'))&&CT.les e e'
  | .ro S,.ro S'=>S.all (S'.contains ·)&&CT.les e e'
  | _,_=>false
 | _,_=>false
def CT.les:aa CT->aa CT->Bool
 | [],[]=>true
 | c::cs,c'::cs'=>c.le c'&&CT.les cs cs'
 | _,_=>false
end
theorem jV:∀{cs cs':aa CT},CT.les cs cs'=true->cs.length=cs'.length
 | [],[],_=>rfl
 | c::cs,c'::cs',h=>by
  simp only [CT.les,aM] at h;simp [jV h.2]
 | [],_::_,h=>by simp [CT.les] at h
 | _::_,[],h=>by simp [CT.les] at h
mutual
theorem axK {κ:aP} {w:aA}:∀{c c':CT} {p:Pl} {x:aj} {a:A},c.le c'=true->RC κ w c p x a->RC κ w c' p x a
 | .d,.d,_,_,_,_,h=>h
 | .sl m e,.sl .dead e',_,_,.s _,_,h=>by simp [RC]
 | .sl m e,.sl .dead e',_,_,.v _,_,h=>by simp [RC]
 | .sl (.own k) e,.sl (.own k') e',p,x,.s xs,hl,h=>by
  simp only [CT.le,aM] at hl;simp only [RC] at h ⊢;obtain ⟨ao,cap,hx,dD,hc⟩:=h;refine ⟨ao,cap,hx,dD,?_⟩;rcases hc with h0|⟨b,o,h1,h2,h3,h4,h5⟩
  ·exact .inl h0
  ·exact .inr ⟨b,o,h1,h2,h3,by rw [<-jV hl.2];exact h4,Xz hl.2 h5⟩
 | .sl (.ro S) e,.sl (.ro S') e',p,x,.s xs,hl,h=>by
  simp only [CT.le,aM,bW] at hl;simp only [RC] at h ⊢;obtain ⟨ao,cap,hx,dD,hc⟩:=h;refine ⟨ao,cap,hx,dD,?_⟩;rcases hc with h0|⟨b,o,h1,h2,h3,h4⟩
  ·exact .inl h0
  ·exact .inr ⟨b,o,h1,⟨h2.1,fun r q hb=>⟨by simpa using hl.1 r (h2.2 r q hb).1,(h2.2 r q hb).2⟩⟩,by rw [<-jV hl.2];exact h3,Xz hl.2 h4⟩
 | .sl .dead e,.sl (.own _) e',_,_,_,hl,_=>by simp [CT.le] at hl
 | .sl .dead e,.sl (.ro _) e',_,_,_,hl,_=>by simp [CT.le] at hl
 | .sl (.own _) e,.sl (.ro _) e',_,_,_,hl,_=>by simp [CT.le] at hl
 | .sl (.ro _) e,.sl (.own _) e',_,_,_,hl,_=>by simp [CT.le] at hl
 | .sl (.own _) e,.sl (.own _) e',_,_,.v _,_,h=>by simp [RC] at h
 | .sl (.ro _) e,.sl (.ro _) e',_,_,.v _,_,h=>by simp [RC] at h
 | .d,.sl _ _,_,_,_,hl,_=>by simp [CT.le] at hl
 | .sl _ _,.d,_,_,_,hl,_=>by simp [CT.le] at hl
theorem xm {κ:aP} {w:aA}:∀{cs cs':aa CT} {p:Pl} {j:Nat} {get:Nat->aj} {as:aa A},CT.les cs cs'=true->aB κ w cs p j get as->aB κ w cs' p j get as
 | [],[],_,_,_,[],_,_=>by simp [aB]
 | c::cs,c'::cs',p,j,get,a::as,hl,h=>by
  simp only [CT.les,aM] at hl;simp only [aB] at h ⊢;exact ⟨axK hl.1 h.1,xm hl.2 h.2⟩
 | [],_::_,_,_,_,_,hl,_=>by simp [CT.les] at hl
 | _::_,[],_,_,_,_,hl,_=>by simp [CT.les] at hl
 | [],[],_,_,_,_::_,_,h=>by simp [aB] at h
 | _::_,_::_,_,_,_,[],_,h=>by simp [aB] at h
theorem Xz {κ:aP} {w:aA}:∀{e e':aa CT} {p:Pl} {j:Nat} {get:Nat->aj} {xs:aa (aa A)},CT.les e e'=true->dF κ w e p j get xs->dF κ w e' p j get xs
 | _,_,_,_,_,[],_,_=>by simp [dF]
 | e,e',p,j,get,x::xs,hl,h=>by
  simp only [dF] at h ⊢;rw [<-jV hl];exact ⟨xm hl h.1,Xz hl h.2⟩
end
end Go.Fw
namespace Go.Fw
theorem abW {κ:aP} {w:aA} {m:Md} {e:aa CT} {p:Pl} {x:aj} {ys:aa (aa A)} (hm:m≠.dead) (h:RC κ w (.sl m e) p x (.s ys)) :
  ∃ao cap,x = .slice ao ys.length cap/\(ys=[]\/∃b o,ao=some ⟨b,o,none⟩/\Rdb w b o (o+ys.length*e.length)/\dF κ w e p 0 (fun j=>cellD w b (o+j)) ys):=by
 cases m with
 | dead=>exact absurd rfl hm
 | own k=>
  simp only [RC] at h;obtain ⟨ao,cap,h1,dD,hc⟩:=h;refine ⟨ao,cap,h1,?_⟩;rcases hc with ⟨rfl,rfl⟩|⟨b,o,rfl,_,_,hw,he⟩
  ·exact .inl (nz.1 (by omega))
  ·have:=jg e.length dD;exact .inr ⟨b,o,rfl,fun q h1 h2=>(hw q h1 (by omega)).1,he⟩
 | ro S=>
  simp only [RC] at h;obtain ⟨ao,cap,h1,dD,hc⟩:=h;refine ⟨ao,cap,h1,?_⟩;rcases hc with h0|⟨b,o,rfl,_,hr,he⟩
  ·exact .inl h0
  ·exact .inr ⟨b,o,rfl,hr,he⟩
def ag3 (g:Nat->TT):iN->ah (Nat × aa CT)
 | .tmp t=>match g t with
  | .val false [.sl (.own _) e]=>some (t,e)
  | .val false [.sl (.ro _) e]=>some (t,e)
  | .alias false [.sl (.ro _) e] _ _ _ _=>some (t,e)
  | _=>none
 | _=>none
theorem kr {x:aj} {vs:aa aj} (h:cellsOf false x=some vs):vs=[x]:=by
 cases x<;>simp [cellsOf] at h<;>exact h.symm
section
variable {ac:Nat->Nat->aj} {κ0 κ:aP} {w0 w:aA} {N:Nat} {tg g:Nat->TT} {sv s:Nat->AV} {a:Act}
theorem al8 (h:R ac κ0 w0 κ w N tg sv (gm a)) (hL:Le g s tg sv) {x:iN} {t:Nat} {e:aa CT} (hx:ag3 g x=some (t,e)) {ys:aa (aa A)} {is:aa Nat} (hg:vI t s=some (ys,is)) :
  t<N/\∃ao cap,a.eval x = .slice ao ys.length cap/\(ys=[]\/∃b o,ao=some ⟨b,o,none⟩/\Rdb w b o (o+ys.length*e.length)/\dF κ w e (t,[0]) 0 (fun j=>cellD w b (o+j)) ys):=by
 cases x with
 | tmp u=>
  have hs:=wB hg;have ko:a.eval (.tmp u)=gm a u:=rfl;have bZ:tg u≠.dead->u<N:=fun ht=>by
   apply sW;intro dD;exact ht (h.out u dD)
  rw [ko];simp only [ag3] at hx;split at hx
  ·rename_i k e hT;cases hx;obtain ⟨e1,e2⟩:=hL.at hT (by simp);have h1:=h.tr t;rw [e1] at h1;simp only [TR] at h1;obtain ⟨as,vs,g1,g2,g3,_,g5⟩:=h1;rw [e2,hs] at g1;cases g1;have:=kr g2;subst this;simp only [aB] at g5;exact ⟨bZ (by simp [e1]),abW (by simp) g5.1⟩
  ·rename_i S e hT;cases hx;obtain ⟨e1,e2⟩:=hL.at hT (by simp);have h1:=h.tr t;rw [e1] at h1;simp only [TR] at h1;obtain ⟨as,vs,g1,g2,g3,_,g5⟩:=h1;rw [e2,hs] at g1;cases g1;have:=kr g2;subst this;simp only [aB] at g5;exact ⟨bZ (by simp [e1]),abW (by simp) g5.1⟩
  ·rename_i S e r sk off S' hT;cases hx;obtain ⟨e1,e2⟩:=hL.at hT (by simp);have h1:=h.tr t;rw [e1] at h1;simp only [TR] at h1;obtain ⟨as,is',vs,_,_,_,g1,g2,g3,_,g5,_⟩:=h1;rw [e2,hs] at g1;cases g1;have:=kr g2;subst this;simp only [aB] at g5;exact ⟨bZ (by simp [e1]),abW (by simp) g5.1⟩
  ·cases hx
 | _=>simp [ag3] at hx
end
inductive HX where
 | nil
 | t (i:Nat) (e:List CT)
def aoU (g:Nat->TT):iN->ah HX
 | .const (.slice none 0 0)=>some .nil
 | .tmp t=>match g t with
  | .val false [.sl (.own _) e]=>some (.t t e)
  | _=>none
 | _=>none
def HX.tx:HX->ah Nat
 | .nil=>none
 | .t i _=>some i
def HX.e (e':aa CT):HX->aa CT
 | .nil=>e'
 | .t _ e=>e
def HX.get (s:Nat->AV):HX->ah (aa (aa A))
 | .nil=>some []
 | .t i _=>(vI i s).map (·.1)
theorem avZ {ac:Nat->Nat->aj} {κ0 κ:aP} {w0 w:aA} {N:Nat} {tg g:Nat->TT} {sv s:Nat->AV} {a:Act} (h:R ac κ0 w0 κ w N tg sv (gm a)) (hL:Le g s tg sv) {x:iN} {X:HX} {e':aa CT} {srcs:aa Nat}
  (hx:aoU g x=some X) (pM:∀t,X.tx=some t->t∈srcs) {xs:aa (aa A)} (hg:X.get s=some xs) :
  ∃ao cap,a.eval x = .slice ao xs.length cap/\((X.tx=none/\xs=[]/\ao=none/\cap=0)\/∃x pin,X.tx=some x/\x∈srcs/\RC κ w (.sl (.own pin) (X.e e')) (x,[0]) (.slice ao xs.length cap) (.s xs)):=by
 unfold aoU at hx;split at hx
 ·cases hx;simp only [HX.get,aK] at hg;subst hg;exact ⟨none,0,rfl,.inl ⟨rfl,rfl,rfl,rfl⟩⟩
 ·rename_i t;split at hx
  ·rename_i pin e hT;cases hx;simp only [HX.get,cO] at hg;obtain ⟨⟨xs',is⟩,hg,rfl⟩:=hg;have hs:=wB hg;have ko:a.eval (.tmp t)=gm a t:=rfl;obtain ⟨e1,e2⟩:=hL.at hT (by simp);have h1:=h.tr t;rw [e1] at h1;simp only [TR] at h1;obtain ⟨as,vs,g1,g2,g3,_,g5⟩:=h1;rw [e2,hs] at g1;cases g1;have:=kr g2;subst this;simp only [aB] at g5;obtain ⟨ao,cap,hc⟩:=IZ (by simp) g5.1;refine ⟨ao,cap,by rw [ko];simpa using hc,.inr ⟨t,pin,rfl,pM t rfl,?_⟩⟩;have h2:=g5.1;simp only [uZ] at h2 hc;rw [hc] at h2;exact h2
  ·cases hx
 ·cases hx
def Be (X:HX) (yt:Nat) (s:Nat->AV):ah (aa AV):=
 match X.get s,vI yt s with
 | some xs,some (ys,_)=>if xs.length+ys.length<=4294967296 then some [.v [.s (xs++ys)] []] else none
 | _,_=>none
def HX.rd:HX->aa Nat
 | .nil=>[]
 | .t i _=>[i]
structure EI where
 e:TypeId
 i:TypeInfo
def XA (P:aR) (t:TypeId):ah EI:=
 match P.underlying t with
 | some (.slice e)=>match P.info? e with
  | some i=>match i.zero with
   | some z=>if z.cells.size=i.size/\i.bytes<=4096/\0<i.size then some ⟨e,i⟩ else none
   | none=>none
  | none=>none
 | _=>none
theorem Vz {P:aR} {t:TypeId} {E:EI} (h:XA P t=some E):∃z,Om P t E.e E.i z:=by
 unfold XA at h;split at h;case h_2=>cases h
 case h_1 e he=>
 split at h;case h_2=>cases h
 case h_1 i hi=>
 split at h;case h_2=>cases h
 case h_1 z hz=>
 split at h;case isFalse=>cases h
 case isTrue hc=>
 cases h;exact ⟨z,⟨he,hi,hz,hc.1,hc.2.1,hc.2.2⟩⟩
def Oy (X:HX) (yt:Nat) (e:aa CT):aa Nat:=X.tx.toList++(if CT.nowns e then [] else [yt])
mutual
def CT.jn:CT->CT->CT
 | .sl (.ro S) e,.sl (.ro S') e'=>.sl (.ro (S++S'.filter fun x=>!S.contains x)) (CT.jns e e')
 | .sl (.own p) e,.sl (.own p') e'=>.sl (.own (if p=p' then p else none)) (CT.jns e e')
 | c,_=>c
def CT.jns:aa CT->aa CT->aa CT
 | c::cs,c'::cs'=>c.jn c'::CT.jns cs cs'
 | cs,_=>cs
end
def Oz (P:aR) (N:Nat) (g:Nat->TT) (o:bS):ah Stp:=
 match o.dst,o.op with
 | some d,.call c=>match c.callee,c.args.toList,c.argTypes.toList with
  | .builtin .append,[x,y],[t,t2]=>match aoU g x,ag3 g y,XA P t,P.underlying t2 with
   | some X,some (yt,e'),some E,some (.slice _)=>
    let e:=CT.jns (X.e e') e'
    let srcs:=Oy X yt e
    if CT.les (X.e e') e=true/\d<N/\e.length=E.i.size/\CT.les e' e=true/\CT.lives e=true/\CT.mens srcs e=false/\X.tx≠some yt/\FB∉srcs then
     some (Stp.mv d srcs (.val false [.sl (.own none) e]) (yt::X.rd) (.det (Be X yt)))
    else none
   | _,_,_,_=>none
  | _,_,_=>none
 | _,_=>none
theorem ag4 {P:aR} {N:Nat} {g:Nat->TT} {o:bS} {S:Stp} (h:Oz P N g o=some S):d_ P N o g S:=by
 unfold Oz at h;split at h;case h_2=>cases h
 case h_1 d c hd ho=>
 obtain ⟨callee,⟨args⟩,⟨ats⟩⟩:=c;simp only at h;split at h;case h_2=>cases h
 case h_1 _ _ _ x y t t2=>
 split at h;case h_2=>cases h
 case h_1 X yt e' E e2 hX hY hE ht2=>
 split at h;case isFalse=>cases h
 case isTrue hc=>
 obtain ⟨aGn,hdN,JW,dD,lW,hm,bv,qz⟩:=hc;generalize hje:CT.jns (X.e e') e'=ej at *
 cases h;intro ac κ0 κ w0 w tg sv s a v next Q hN hR hL hv bT;simp only [Stp.mv,Eff.rel,Be] at hv;split at hv;case h_2=>cases hv
 case h_1 xs ys is yP hys=>
 split at hv;case isFalse=>cases hv
 case isTrue acV=>
 cases hv;obtain ⟨z,RA⟩:=Vz hE;obtain ⟨ao,cap,ko,hx0⟩:=avZ (e':=e') (srcs:=Oy X yt ej) hR hL hX (fun t ht=>by simp [Oy,ht]) yP;have hx:(X.tx=none/\xs=[]/\ao=none/\cap=0)\/∃x pin,X.tx=some x/\x∈Oy X yt ej/\RC κ w (.sl (.own pin) ej) (x,[0]) (.slice ao xs.length cap) (.s xs):=by
  rcases hx0 with h0|⟨x,pin,h1,h2,h3⟩
  ·exact .inl h0
  ·exact .inr ⟨x,pin,h1,h2,axK (by simp [CT.le,aGn]) h3⟩
 obtain ⟨aJb,yo,ycap,aGo,hy⟩:=al8 hR hL hY hys;have uq:ys=[]\/∃b o,yo=some ⟨b,o,none⟩/\Rdb w b o (o+ys.length*ej.length)/\dF κ w ej (yt,[0]) 0 (fun j=>cellD w b (o+j)) ys:=by
  rcases hy with h0|⟨b,o',h1,h2,h3⟩
  ·exact .inl h0
  ·exact .inr ⟨b,o',h1,by rw [<-jV dD];exact h2,Xz dD h3⟩
 obtain ⟨κ',w',vv,fq,jA⟩:=avY RA ht2 (ty:=o.type) hR hdN qz JW hx uq (by
  cases gU:CT.nowns ej with
  | true=>exact .inr rfl
  | false=>exact .inl (by simp [Oy,gU])) bv hm lW acV (ycap:=ycap)
 obtain ⟨cs,pO⟩:=D6 (ρ:=a.eval) ho;refine xh hd hN hdN (w':=w') (x:=vv) ?_ jA bT;rw [pO];refine dG ?_;simp only [Xi,bf,bQ,ko,aGo];exact fq
end Go.Fw
namespace Go.Fw
def spl {α:Type}:aa α->aa (Nat × aa α)->aa α
 | l,[]=>l
 | l,(o,x)::ps=>spl (splice l o x) ps
structure QX where
 off:Nat
 X:OX
def tC (s:Nat->AV):aa QX->ah (aa (aa A))
 | []=>some []
 | q::qs=>match q.X.get s,tC s qs with
  | some as,some r=>some (as::r)
  | _,_=>none
def XB (qs:aa QX):aa Nat:=qs.map (·.off)
def OA (P:aR) (g:Nat->TT) (fs:Array Field) (n:Nat):aa (Nat × iN)->ah (aa QX)
 | []=>some []
 | (k,x)::r=>match fs[k]?,(placesOf P fs)[k]?,OA P g fs n r with
  | some fi,some (off,size),some qs=>match qg P g fi.type off x with
   | some X=>if X.cs.length=size/\off+size<=n then some (⟨off,X⟩::qs) else none
   | none=>none
  | _,_,_=>none
theorem asg {ps:aa Pt}:∀{p:Pt},p∈ps->(ps.map (·.t)).count p.t<=1->ps.find? (fun q=>q.t == p.t)=some p:=by
 induction ps with
 | nil=>intro p h;simp at h
 | cons q ps ih=>
  intro p hp hc;simp only [List.find?_cons];by_cases hq:q.t=p.t
  ·simp only [hq,beq_self_eq_true];rcases aY.1 hp with rfl|NZ
   ·rfl
   ·exfalso;have h1:p.t∈ps.map (·.t):=List.mem_map_of_mem NZ;have:=List.count_pos_iff.2 h1;simp only [bf,List.count_cons,hq,beq_self_eq_true,if_true] at hc;omega
  ·have hb:(q.t == p.t)=false:=by simpa using hq
   simp only [hb];rcases aY.1 hp with rfl|NZ
   ·exact absurd rfl hq
   ·refine ih NZ ?_;simp only [bf,List.count_cons,hb] at hc;simpa using hc
section
variable {P:aR} {ac:Nat->Nat->aj} {κ0 κ:aP} {w0 w:aA} {N:Nat} {tg g:Nat->TT} {sv s:Nat->AV} {a:Act}
structure aDW (κ:aP) (w:World) (srcs:List Nat) (qs:List QX) (ass:List (List A)) (ps:List Pt):Prop where
 cs:∀C,jl Pt.cs C ps=spl C (qs.map fun q=>(q.off,q.X.cs))
 as:∀C,jl Pt.as C ps=spl C ((XB qs).zip ass)
 part:∀p,p∈ps->Part κ w srcs p.t p.cs p.vs p.as
 ts:ps.map (·.t)=qs.map (·.X.t)
theorem ac9 (h:R ac κ0 w0 κ w N tg sv (gm a)) (hL:Le g s tg sv) {fs:Array Field} {n:Nat} {srcs:aa Nat}:∀{parts:aa (Nat × iN)} {qs:aa QX} {ass:aa (aa A)},OA P g fs n parts=some qs->tC s qs=some ass ->
  (∀q,q∈qs->(q.X.own=true->q.X.t∈srcs)/\CT.mens srcs q.X.cs=false) ->
  ∃ps,aDW κ w srcs qs ass ps/\aoK n ps/\(∀V:aa aj,V.length=n->w_ (fun k=>(placesOf P fs)[k]?) V (parts.map fun p=>(p.1,(a.eval p.2).cells.toList))=some (jl Pt.vs V ps))
 | [],qs,ass,hb,hg,_=>by
  simp only [OA,aK] at hb;subst hb;simp only [tC,aK] at hg;subst hg;exact ⟨[],⟨fun C=>rfl,fun C=>rfl,by simp,rfl⟩,by simp [aoK],fun V _=>rfl⟩
 | (k,x)::r,qs,ass,hb,hg,hs=>by
  simp only [OA] at hb;split at hb;case h_2=>cases hb
  case h_1 fi off size qs' hfi hpl di=>
  split at hb;case h_2=>cases hb
  case h_1 X hX=>
  split at hb;case isFalse=>cases hb
  case isTrue hc=>
  cases hb;simp only [tC] at hg;split at hg;case h_2=>cases hg
  case h_1 as ass' jL qC=>
  cases hg;have hq:=hs ⟨off,X⟩ (by simp);obtain ⟨vs,h1,h2,_⟩:=IY h hL hX jL hq.1 hq.2;obtain ⟨ps,hB,hF,arH⟩:=ac9 h hL di qC fun q hq=>hs q (by simp [hq])
  have hl:=h2.len;refine ⟨⟨off,X.t,X.cs,vs,as⟩::ps,⟨fun C => ?_,fun C => ?_,fun p hp => ?_,?_⟩,fun p hp => ?_,fun V hV => ?_⟩
  ·simp only [jl,bf,spl];exact hB.cs _
  ·simp only [jl,XB,bf,J7,spl];exact hB.as _
  ·rcases aY.1 hp with rfl|hp
   ·exact h2
   ·exact hB.part p hp
  ·simp [hB.ts]
  ·rcases aY.1 hp with rfl|hp
   ·simp only;omega
   ·exact hF p hp
  ·simp only [bf,w_,hpl,vJ h1,jl];rw [if_pos ⟨by omega,by omega⟩];exact arH _ (by rw [lK (by omega)];exact hV)
end
def ve (qs:aa QX):aa Nat:=qs.flatMap fun q=>dP q.X
def Km (ZA:aa A) (qs:aa QX) (s:Nat->AV):ah (aa AV):=
 match tC s qs with
 | some ass=>some [.v (spl ZA ((XB qs).zip ass)) []]
 | none=>none
def okQ (qs:aa QX):Bool:=
 qs.all (fun q=>!CT.mens (ve qs) q.X.cs)&&(ve qs).all (fun t=>decide ((qs.map (·.X.t)).count t<=1)) && !(ve qs).contains FB
def VA (P:aR) (N:Nat) (g:Nat->TT) (o:bS):ah Stp:=
 match o.dst,o.op with
 | some d,.build t parts=>match P.underlying t,P.info? t,abT P fuel t with
  | some (.struct fs),some i,some Z=>match i.zero with
   | some z=>match zA Z z.cells.toList,OA P g fs Z.length parts.toList with
    | some ZA,some qs=>
     let C:=spl Z (qs.map fun q=>(q.off,q.X.cs))
     if d<N/\fs.toList.all (fun f=>(P.info? f.type).isSome)=true/\okQ qs=true/\h_ C=true then
      some (Stp.mv d (ve qs) (.val true C) (qs.flatMap (·.X.rd)) (.det (Km ZA qs)))
     else none
    | _,_=>none
   | none=>none
  | _,_,_=>none
 | _,_=>none
theorem akP {P:aR} {N:Nat} {g:Nat->TT} {o:bS} {S:Stp} (h:VA P N g o=some S):d_ P N o g S:=by
 unfold VA at h;split at h;case h_2=>cases h
 case h_1 d t parts hd ho=>
 split at h;case h_2=>cases h
 case h_1 fs i Z zk hi hZ=>
 split at h;case h_2=>cases h
 case h_1 z hz=>
 split at h;case h_2=>cases h
 case h_1 ZA qs hZA hqs=>
 simp only at h;split at h;case isFalse=>cases h
 case isTrue hc=>
 obtain ⟨hdN,aGp,a_,jy⟩:=hc;cases h;intro ac κ0 κ w0 w tg sv s a v next Q hN hR hL hv bT;simp only [Stp.mv,Eff.rel,Km] at hv;split at hv;case h_2=>cases hv
 case h_1 ass FI=>
 cases hv;simp only [okQ,aM,bW,pU] at a_;obtain ⟨⟨hm,ho1⟩,qy⟩:=a_;obtain ⟨ps,hB,hF,arH⟩:=ac9 (srcs:=ve qs) hR hL hqs FI fun q hq=>⟨fun ho=>CY.2 ⟨q,hq,by simp [dP,ho]⟩,hm q hq⟩
 have RB:=Sg hZA;have bJ:=D5 RB;have once:axH (ve qs) ps:=fun p hp hs=>asg hp (by rw [hB.ts];simpa using ho1 p.t hs)
 have jA:=azK hR hdN (srcs:=ve qs) (by simpa using qy) RB hB.part once hF (by rw [hB.cs];exact jy);rw [hB.cs,hB.as] at jA;refine xh hd hN hdN (w':=w) ?_ jA bT;unfold execOp;rw [ho];simp only;refine dG ?_;have hf2:=arH z.cells.toList bJ;refine run_build (P:=P) zk hi hz aGp (l:=jl Pt.vs z.cells.toList ps) ?_;rw [<-hf2];congr 1;simp [Xh,wX,Function.comp_def]
end Go.Fw
namespace Go.Fw
def XC:aa Nat->Nat->Nat->ah Nat
 | [],_,_=>none
 | u::us,t,i=>if u=t then some i else XC us t (i+1)
theorem ag5 {t:Nat} {post:aa Nat}:∀{pre:aa Nat} {i:Nat},(pre++t::post).count t<=1->XC (pre++t::post) t i=some (i+pre.length)
 | [],i,_=>by simp [XC]
 | u::pre,i,h=>by
  have bv:u≠t:=by
   intro he;subst he;simp only [nC,List.count_cons,List.count_append,beq_self_eq_true,if_true] at h;omega
  simp only [nC,XC,if_neg bv]
  rw [ag5 (by simp only [nC,List.count_cons] at h;have:(u == t)=false:=by simpa using bv
              simp only [this] at h;simpa using h)]
  simp only [bA];congr 1;omega
def slF (T:aa Nat) (size:Nat) (t k:Nat):ah (aa Nat):=(XC T t 0).map fun i=>[0,i*size+k]
section
variable {κ:aP} {w w':aA} {srcs T:aa Nat} {d size:Nat} {nb:ah (Nat × Pl)} {e:aa CT}
theorem ag6 (hw:Grows w w') (oz:∀b p,nb=some (b,p)->w.heap.size<=b) (hc:∀b,w.heap.size<=b->κ b=none) (hT:∀t,t∈srcs->T.count t<=1) (he:e.length=size) :
  ∀{ps:aa Pt} {pre:aa Nat} {V0:aa aj},(∀p,p∈ps->Part κ w srcs p.t p.cs p.vs p.as/\CT.les p.cs e=true)->T=pre++ps.map (·.t)->V0.length=pre.length*size ->
   dF (aW κ (t_ srcs d (slF T size)) nb) w' e (d,[0]) (pre.length*size) (fun k=>(V0++(ps.map (·.vs)).flatten).getD k undef) (ps.map (·.as))
 | [],_,_,_,_,_=>by simp [dF]
 | p::ps,pre,V0,hp,fe,hV=>by
  obtain ⟨h1,h2⟩:=hp p (by simp);have hl:p.cs.length=size:=by rw [<-he];exact jV h2
  simp only [bf,dF];constructor
  ·refine xm h2 (xg hw oz hc h1 (fun k hk ht => ?_) fun i hi => ?_)
   ·unfold slF;rw [fe,bf,ag5 (by have:=hT p.t ht;rw [fe] at this;simpa using this)];simp
   ·have:=h1.len;simp only [J8,dA];rw [<-hV,vE (by omega),rH (by omega)];congr 2;omega
  ·have:=ag6 (ps:=ps) (pre:=pre++[p.t]) (V0:=V0++p.vs) hw oz hc hT he (fun q hq=>hp q (by simp [hq])) (by rw [fe];simp) (by
    rw [bq,hV,h1.len,hl,bq];simp [eD])
   simp only [bq,bA,bB,cB,eD,A_] at this;rw [he];simp only [J8,fJ] at this ⊢;exact this
end
def ag7 (P:aR) (g:Nat->TT) (et:TypeId) (size:Nat):Nat->aa (Nat × iN)->ah (aa QX)
 | _,[]=>some []
 | k,(j,x)::r=>if j=k then match qg P g et k x,ag7 P g et size (k+1) r with
   | some X,some qs=>if X.cs.length=size then some (⟨k,X⟩::qs) else none
   | _,_=>none
  else none
theorem ac_ {size:Nat}:∀{vss:aa (aa aj)} {k:Nat} {pre Z:aa aj},(∀v,v∈vss->v.length=size)->pre.length=k*size->Z.length=vss.length*size ->
  w_ (fun k=>some (k*size,size)) (pre++Z) ((vss.zipIdx k).map fun p=>(p.2,p.1))=some (pre++vss.flatten)
 | [],k,pre,Z,_,_,hZ=>by
  have:Z=[]:=nz.1 (by simpa using hZ)
  subst this;simp [w_]
 | v::vss,k,pre,Z,hv,hp,hZ=>by
  have h1:=hv v (by simp)
  simp only [bA,eD,A_] at hZ
  simp only [List.zipIdx_cons,bf,w_]
  rw [if_pos ⟨h1,by rw [bq];omega⟩]
  have hs:splice (pre++Z) (k*size) v=(pre++v)++Z.drop size:=by
   unfold splice;rw [<-hp,C8,List.drop_append,h1];have:List.drop (pre.length+size) pre=[]:=List.drop_eq_nil_of_le (by omega);rw [this];simp
  rw [hs,ac_ (fun u hu=>hv u (by simp [hu])) (by rw [bq,hp,h1];simp [eD]) (by rw [kX];omega)]
  simp
section
variable {P:aR} {ac:Nat->Nat->aj} {κ0 κ:aP} {w0 w:aA} {N:Nat} {tg g:Nat->TT} {sv s:Nat->AV} {a:Act}
theorem al9 (h:R ac κ0 w0 κ w N tg sv (gm a)) (hL:Le g s tg sv) {et:TypeId} {size:Nat} {srcs:aa Nat}:∀{k:Nat} {parts:aa (Nat × iN)} {qs:aa QX} {ass:aa (aa A)},ag7 P g et size k parts=some qs->tC s qs=some ass ->
  (∀q,q∈qs->(q.X.own=true->q.X.t∈srcs)/\CT.mens srcs q.X.cs=false) ->
  ∃ps:aa Pt,(∀p,p∈ps->Part κ w srcs p.t p.cs p.vs p.as)/\ps.map (·.t)=qs.map (·.X.t)/\ps.map (·.cs)=qs.map (·.X.cs)/\ps.map (·.as)=ass/\(∀p,p∈ps->p.vs.length=size) /\
   parts.map (fun p=>(p.1,(a.eval p.2).cells.toList))=((ps.map (·.vs)).zipIdx k).map fun p=>(p.2,p.1)
 | k,[],qs,ass,hb,hg,_=>by
  simp only [ag7,aK] at hb;subst hb;simp only [tC,aK] at hg;subst hg;exact ⟨[],by simp,rfl,rfl,rfl,by simp,rfl⟩
 | k,(j,x)::r,qs,ass,hb,hg,hs=>by
  simp only [ag7] at hb;split at hb;case isFalse=>cases hb
  case isTrue hj=>
  subst hj;split at hb;case h_2=>cases hb
  case h_1 X qs' hX di=>
  split at hb;case isFalse=>cases hb
  case isTrue hc=>
  cases hb;simp only [tC] at hg;split at hg;case h_2=>cases hg
  case h_1 as ass' jL qC=>
  cases hg;have hq:=hs ⟨j,X⟩ (by simp);obtain ⟨vs,h1,h2,_⟩:=IY h hL hX jL hq.1 hq.2;obtain ⟨ps,g1,g2,g3,g4,g5,g6⟩:=al9 h hL di qC fun q hq=>hs q (by simp [hq])
  refine ⟨⟨j,X.t,X.cs,vs,as⟩::ps,fun p hp => ?_,by simp [g2],by simp [g3],by simp [g4],fun p hp => ?_,by simp [g6,vJ h1,List.zipIdx_cons]⟩
  ·rcases aY.1 hp with rfl|hp
   ·exact h2
   ·exact g1 p hp
  ·rcases aY.1 hp with rfl|hp
   ·simp only;rw [h2.len,hc]
   ·exact g5 p hp
end
def XD (qs:aa QX) (s:Nat->AV):ah (aa AV):=
 match tC s qs with
 | some ass=>some [.v [.s ass] []]
 | none=>none
def aF6 (P:aR) (et:TypeId):aa QX->ah (aa CT)
 | []=>abT P fuel et
 | q::qs=>some (qs.foldl (fun e q=>CT.jns e q.X.cs) q.X.cs)
def ag8 (P:aR) (N:Nat) (g:Nat->TT) (o:bS):ah Stp:=
 match o.dst,o.op with
 | some d,.buildSlice t n parts=>match XA P t with
  | some E=>match ag7 P g E.e E.i.size 0 parts.toList with
   | some qs=>match aF6 P E.e qs with
    | some e=>
     if d<N/\parts.toList.length=n/\n*E.i.size<=16777216/\okQ qs=true/\qs.all (fun q=>CT.les q.X.cs e)=true/\e.length=E.i.size then
      some (Stp.mv d (ve qs) (.val false [.sl (.own none) e]) (qs.flatMap (·.X.rd)) (.det (XD qs)))
     else none
    | none=>none
   | none=>none
  | none=>none
 | _,_=>none
theorem ash {P : aR} {N : Nat} {g : Nat → TT} {o : bS} {S : Stp} (h : ag8 P N g o = some S) : d_ P N o g S := by
  unfold ag8 at h;split at h;case h_2 => cases h
  case h_1 d t n parts hd ho =>
  split at h;case h_2 => cases h
  case h_1 E hE =>
  split at h;case h_2 => cases h
  case h_1 qs hqs =>
  split at h;case h_2 => cases h
  case h_1 e he =>
  split at h;case isFalse => cases h
  case isTrue hc =>
  obtain ⟨hdN, hn, dM, a_, dD, sO⟩ := hc;cases h;intro ac κ0 κ w0 w tg sv s a v next Q hN hR hL hv bT;simp only [Stp.mv, Eff.rel, XD] at hv;split at hv;case h_2 => cases hv
  case h_1 ass FI =>
  cases hv;obtain ⟨z, RA⟩ := Vz hE;simp only [okQ, aM, bW, pU] at a_;obtain ⟨⟨hm, ho1⟩, qy⟩ := a_;obtain ⟨ps, g1, g2, g3, g4, g5, g6⟩ := al9 (srcs := ve qs) hR hL hqs FI fun q hq => ⟨fun ho => CY.2 ⟨q, hq, by simp [dP, ho]⟩, hm q hq⟩
  have bJ : ps.length = n := by
    have := congrArg List.length g6;simp only [fE, List.length_zipIdx] at this;omega
  have hls : ∀ p, p ∈ ps → CT.les p.cs e = true := by
    intro p hp;have : p.cs ∈ qs.map (·.X.cs) := by rw [← g3]; exact List.mem_map_of_mem hp
    obtain ⟨q, hq, hqe⟩ := cK.1 this;rw [← hqe];exact (bW.1 dD) q hq
  have qA : ass.length = n := by rw [← g4]; simpa using bJ
  have agN : ((ps.map (·.vs)).flatten).length = n * E.i.size := by
    have : ∀ (ps : aa Pt), (∀ p, p ∈ ps → p.vs.length = E.i.size) → ((ps.map (·.vs)).flatten).length = ps.length * E.i.size := by
      intro ps;induction ps with
      | nil => intro _; simp
      | cons p ps ih =>
        intro h;simp only [bf, J8, bq, bA, eD, A_];rw [ih fun q hq => h q (by simp [hq]), h p (by simp)]; omega
    rw [this ps g5, bJ]
  have aGq : FB ∉ ve qs := by simpa using qy
  have jA := agV hR hdN (srcs := ve qs) aGq (f := slF (qs.map (·.X.t)) E.i.size) (e := e) (xs := ass) (cells := ((ps.map (·.vs)).flatten).toArray) (ty := E.e) (cap := n) (by omega) (by
      rw [sO]; simp only [List.size_toArray, agN]; omega) (fun κ' w' hκ hw => by
    have := ag6 (w' := w') (d := d) (nb := some (w.heap.size, (d, [0]))) (T := qs.map (·.X.t)) (κ := κ) (srcs := ve qs) (size := E.i.size) (e := e) (by rw [hw]; exact uz w _ _) (fun b p hb => by cases hb; omega) hR.col
      (fun t ht => by simpa using ho1 t ht) sO (ps := ps) (pre := []) (V0 := []) (fun p hp => ⟨g1 p hp, hls p hp⟩) (by simp [g2]) (by simp)
    rw [g4] at this
    rw [hκ]
    simpa using this)
  rw [qA] at jA;refine xh hd hN hdN (w' := gu w ((ps.map (·.vs)).flatten).toArray E.e) ?_ jA bT;unfold execOp; rw [ho];simp only;refine dG ?_;refine run_buildSlice RA dM ?_;have hff := ac_ (size := E.i.size) (vss := ps.map (·.vs)) (k := 0) (pre := []) (Z := (List.replicate n z.cells.toList).flatten) (fun v hv => by
    obtain ⟨p, hp, rfl⟩ := cK.1 hv; exact g5 p hp) (by simp) (by
      have := RA.zsize
      simp [bJ, this])
  rw [← g6] at hff;simp only [dN] at hff;rw [← hff];congr 1;simp [Xh, wX, Function.comp_def]
end Go.Fw
namespace Go.Fw
section
variable {ac:Nat->Nat->aj} {κ0 κ:aP} {w0 w:aA} {N:Nat} {tg tg2:Nat->TT} {sv:Nat->AV} {tm:Nat->aj}
theorem al_ (h:R ac κ0 w0 κ w N tg sv tm) {r b:Nat} {cs:aa CT} (hr:tg r = .box cs) (hb:tm r = .pointer (some ⟨b,0,none⟩))
  (h2:∀t,tg2 t=tg t\/(tg t = .dead/\t<N/\∃off S,tg2 t = .ptr r [] off S/\sv t = .p []/\tm t = .pointer (some ⟨b,0+off,none⟩))):R ac κ0 w0 κ w N tg2 sv tm:=by
 have lF:∀r x,rg w (tg2 r) x=rg w (tg r) x/\rb (tg2 r) x=rb (tg r) x:=by
  intro r' x;rcases h2 r' with h2|⟨h3,_,off,S,h4,_⟩
  ·rw [h2];exact ⟨rfl,rfl⟩
  ·rw [h3,h4];exact ⟨by funext k;simp [rg],by simp [rb]⟩
 have hk:=h.tr r;rw [hr] at hk;simp only [TR] at hk;obtain ⟨as,b',_,k2,k3,k4,_⟩:=hk;rw [hb] at k2;cases k2;refine ⟨fun t => ?_,fun t ht => ?_,h.col,h.fr,h.fb,h.nle⟩
 ·rcases h2 t with BQ|⟨_,_,off,S,h4,h5,h6⟩
  ·have:=h.tr t;rw [BQ];cases hT:tg t with
   | alias ag cs r sk off S=>rw [hT] at this;simp only [TR,(lF r (tm r)).2,show rg w (tg2 r) (tm r)=rg w (tg r) (tm r) from (lF r (tm r)).1] at this ⊢;exact this
   | ptr r sk off S=>rw [hT] at this;simp only [TR,(lF r (tm r)).2,show rg w (tg2 r) (tm r)=rg w (tg r) (tm r) from (lF r (tm r)).1] at this ⊢;exact this
   | dead=>simp [TR]
   | val=>rw [hT] at this;simpa only [TR] using this
   | box=>rw [hT] at this;simpa only [TR] using this
   | tup=>rw [hT] at this;simpa only [TR] using this
  ·rw [h4];simp only [TR,(lF r (tm r)).2,show rg w (tg2 r) (tm r)=rg w (tg r) (tm r) from (lF r (tm r)).1];refine ⟨[],b,0,h5,by simp [iH,hr,hb,rb,wk],by simp [PO],fun b' di => ?_,h6⟩;rw [hr,hb] at di;simp [rb] at di;subst di;exact k4
 ·rcases h2 t with BQ|⟨_,h3,_⟩
  ·rw [BQ];exact h.out t ht
  ·omega
end
def qE (N:Nat) (g:Nat->TT) (t:Nat):ah Stp:=
 match g t with
 | .alias ag cs0 r [] off _=>match g r with
  | .val gg cs=>if t<N/\r<N/\t≠r/\CT.mens [r] cs=false/\off+cs0.length<=cs.length then
    some ⟨[(t,.val ag ((cs.drop off).take cs0.length)),(r,.val gg (iT off cs0.length cs))],fun T=>T.killS r [t,r] [r],[t],.det (gP t)⟩ else none
  | .box cs=>if t<N/\r<N/\t≠r/\CT.mens [r] cs=false/\off+cs0.length<=cs.length then
    some ⟨[(t,.val ag ((cs.drop off).take cs0.length)),(r,.box (iT off cs0.length cs))],fun T=>T.killS r [t,r] [r],[t],.det (gP t)⟩ else none
  | _=>none
 | _=>none
def aA8 (P:aR) (N:Nat) (g:Nat->TT) (S:Stp):Prop:=
 ∀(ac:Nat->Nat->aj) (κ0 κ:aP) (w0 w:aA) (tg:Nat->TT) (sv s:Nat->AV) (tm:Nat->aj) (v:aa AV),R ac κ0 w0 κ w N tg sv tm->Le g s tg sv->S.eff.rel P s v ->
  ∃κ' tg' sv',R ac κ0 w0 κ' w N tg' sv' tm/\(∀t,tg' t=aC (fun t=>S.kl (tg t)) S.up t)/\(∀t,sv' t=aC sv ((S.up.map (·.1)).zip v) t)
theorem Kn {r:Nat} {mods M:aa Nat} {T:TT} (h:T.killS r mods M≠T.kill mods M):∃off S,T = .ptr r [] off S/\T.killS r mods M=T:=by
 unfold TT.killS at h ⊢;split at h
 ·rename_i r' off S;split at h
  ·rename_i hr;subst hr;exact ⟨off,S,rfl,by simp⟩
  ·exact absurd rfl h
 ·exact absurd rfl h
theorem aoV {P:aR} {N:Nat} {g:Nat->TT} {t:Nat} {S:Stp} (h:qE N g t=some S):aA8 P N g S:=by
 unfold qE at h;split at h;case h_2=>cases h
 case h_1 ag cs0 r off S0 hT=>
 have main:∀{cs:aa CT} {tag':TT},(g r).cts=some cs->t<N->r<N->t≠r->CT.mens [r] cs=false->off+cs0.length<=cs.length ->
   (∀tg:Nat->TT,tg r=g r->tag'=match tg r with | .val g _=>.val g (iT off cs0.length cs) | .box _=>.box (iT off cs0.length cs)|x=>x) ->
   aA8 P N g ⟨[(t,.val ag ((cs.drop off).take cs0.length)),(r,tag')],fun T=>T.killS r [t,r] [r],[t],.det (gP t)⟩:=by
  intro cs tag' pR lV sM JV hm hn arC ac κ0 κ w0 w tg sv s tm v hR hL hv;simp only [Eff.rel,gP,cO] at hv;obtain ⟨as,hg,rfl⟩:=hv;obtain ⟨is,hs⟩:=df hg;obtain ⟨e1,e2⟩:=hL.at hT (by simp);obtain ⟨sN,_⟩:=Bd hL pR;have gY:tg r=g r:=by
   have bv:g r≠.dead:=fun he=>by rw [he] at pR;simp [TT.cts] at pR
   exact (hL.at rfl bv).1
  have jA:=ar8 hR lV sM JV e1 sN hm hn (by rw [e2,hs]) (arC tg gY);refine ⟨aW κ (iW r off cs0.length t) none,aC (fun u=>(tg u).killS r [t,r] [r]) [(t,.val ag ((cs.drop off).take cs0.length)),(r,tag')],aC sv [(t,.v as [])],?_,fun u=>rfl,fun u=>by simp⟩;have jJ:aC sv [(t,.v as [])]=upd sv t (.v as []):=D7 _ _ _;rw [jJ]
  -- pointers to the box itself stay
  by_cases IJ:∃cb,tg r = .box cb
  ·obtain ⟨cb,hcb⟩:=IJ;have hk:=hR.tr r;rw [hcb] at hk;simp only [TR] at hk;obtain ⟨as2,b,_,k2,_⟩:=hk;have arI:=arC tg gY;rw [hcb] at arI;simp only at arI;refine al_ jA (r:=r) (b:=b) (cs:=iT off cs0.length cs) (by rw [upd_ne _ _ _ (ig JV),bI];exact arI) k2 fun u => ?_
   by_cases FJ:u=t
   ·left;subst FJ;simp [aC,upd]
   ·by_cases yO:u=r
    ·left;subst yO;simp [aC,upd,FJ]
    ·simp only [aC,if_neg FJ,if_neg yO,upd];by_cases gy:(tg u).killS r [t,r] [r]=(tg u).kill [t,r] [r]
     ·exact .inl gy
     ·right;obtain ⟨off',S',hp,mR⟩:=Kn gy;have hu:=hR.tr u;rw [hp] at hu;simp only [TR] at hu;obtain ⟨is',B,O,u1,u2,_,_,u5⟩:=hu;rw [hcb] at u2;simp only [iH,rb,k2,dx] at u2;have pK:is'=[]/\B=b/\O=0:=by
       cases is' with
       | nil=>simp only [wk,aK,bU] at u2;exact ⟨rfl,u2.1.symm,u2.2.symm⟩
       | cons=>simp [wk] at u2
      obtain ⟨rfl,rfl,rfl⟩:=pK;refine ⟨by rw [hp];simp [TT.kill],?_,off',S',by rw [mR,hp],by simpa using u1,u5⟩;apply sW;intro dD;have:=hR.out u dD;rw [hp] at this;cases this
  ·have:aC (fun u=>(tg u).killS r [t,r] [r]) [(t,.val ag ((cs.drop off).take cs0.length)),(r,tag')]=upd (upd (fun u=>(tg u).kill [t,r] [r]) r tag') t (.val ag ((cs.drop off).take cs0.length)):=by
    funext u;simp only [aC,upd];split
    ·rfl
    ·split
     ·rfl
     ·rename_i FJ yO;by_cases gy:(tg u).killS r [t,r] [r]=(tg u).kill [t,r] [r]
      ·exact gy
      ·exfalso;obtain ⟨off',S',hp,_⟩:=Kn gy;have hu:=hR.tr u;rw [hp] at hu;simp only [TR] at hu;obtain ⟨is',B,O,u1,u2,_⟩:=hu;have:rb (tg r) (tm r)=none:=by
        cases hTr:tg r with
        | box cb=>exact absurd ⟨cb,hTr⟩ IJ
        | _=>simp [rb]
       rw [this] at u2;cases is' with
       | nil=>simp [iH,wk] at u2
       | cons=>simp [iH,wk] at u2
   rw [this];exact jA
 split at h
 ·rename_i gg cs hr;split at h;case isFalse=>cases h
  case isTrue hc=>
  cases h;exact main (by rw [hr];rfl) hc.1 hc.2.1 hc.2.2.1 hc.2.2.2.1 hc.2.2.2.2 fun tg he=>by rw [he,hr]
 ·rename_i cs hr;split at h;case isFalse=>cases h
  case isTrue hc=>
  cases h;exact main (by rw [hr];rfl) hc.1 hc.2.1 hc.2.2.1 hc.2.2.2.1 hc.2.2.2.2 fun tg he=>by rw [he,hr]
 ·cases h
def Si (X:DX) (z:aa A) (s:Nat->AV):ah (aa AV):=
 match X.get s with
 | some v=>match toN v with
  | some n=>if n<=4294967296 then some [.v [.s (List.replicate n z)] []] else none
  | none=>none
 | none=>none
def abX (P:aR) (N:Nat) (g:Nat->TT) (o:bS):ah Stp:=
 match o.dst,o.op with
 | some d,.makeSlice t (.tmp l) (.tmp c)=>match XA P t,nL g (.tmp l) with
  | some E,some X=>match abT P fuel E.e,E.i.zero with
   | some e,some z=>match zA e z.cells.toList with
    | some za=>if d<N/\l=c/\e.length=E.i.size then some (Stp.mv d [] (.val false [.sl (.own none) e]) X.rd (.det (Si X za))) else none
    | none=>none
   | _,_=>none
  | _,_=>none
 | _,_=>none
theorem ag9 {κ:aP} {w:aA} {p:Pl} {e:aa CT} {z:aa aj} {za:aa A} (hz:ZR e z za):∀{n j:Nat} {V0:aa aj},V0.length=j ->
  dF κ w e p j (fun k=>(V0++(List.replicate n z).flatten).getD k undef) (List.replicate n za)
 | 0,_,_,_=>by simp [dF]
 | n+1,j,V0,hV=>by
  have hl:=D5 hz;simp only [List.replicate_succ,dF];constructor
  ·refine IU hz fun i hi => ?_
   simp only [J8,dA];rw [<-hV,vE (by omega),rH (by omega)];congr 2;omega
  ·have:=ag9 (κ:=κ) (w:=w) (p:=p) hz (n:=n) (j:=j+e.length) (V0:=V0++z) (by rw [bq,hV,hl]);simp only [J8,fJ] at this ⊢;exact this
theorem aoW {P : aR} {N : Nat} {g : Nat → TT} {o : bS} {S : Stp} (h : abX P N g o = some S) : d_ P N o g S := by
  unfold abX at h;split at h;case h_2 => cases h
  case h_1 d t l c hd ho =>
  split at h;case h_2 => cases h
  case h_1 E X hE hX =>
  split at h;case h_2 => cases h
  case h_1 e z he hz =>
  split at h;case h_2 => cases h
  case h_1 za hza =>
  split at h;case isFalse => cases h
  case isTrue hc =>
  obtain ⟨hdN, rfl, sO⟩ := hc;cases h;intro ac κ0 κ w0 w tg sv s a v next Q hN hR hL hv bT;simp only [Stp.mv, Eff.rel, Si] at hv;split at hv;case h_2 => cases hv
  case h_1 vv hvv =>
  split at hv;case h_2 => cases hv
  case h_1 n hn =>
  split at hv;case isFalse => cases hv
  case isTrue acV =>
  cases hv;obtain ⟨k, m, rfl, hm0, rfl⟩ := Vw hn;obtain ⟨e1, _⟩ := vH hR hL hX hvv;obtain ⟨z', RA⟩ := Vz hE;have hzz : z' = z := by have := RA.zero; rw [hz] at this; exact (Aq this).symm
  subst hzz;have hzr := Sg hza;have yS : ((List.replicate m.toNat z'.cells.toList).flatten).length = m.toNat * E.i.size := by
    have := RA.zsize;simp [this]
  have jA := agV hR hdN (srcs := []) (by simp) (f := fun _ _ => none) (e := e) (xs := List.replicate m.toNat za) (cells := ((List.replicate m.toNat z'.cells.toList).flatten).toArray) (ty := E.e) (cap := m.toNat) (by simp) (by
      rw [sO]; simp only [List.size_toArray, yS]; omega) (fun κ' w' hκ hw => by
    have := ag9 (κ := κ') (w := w') (p := (d, [0])) hzr (n := m.toNat) (j := 0) (V0 := []) rfl
    simpa using this)
  simp only [FV] at jA;refine xh hd hN hdN (w' := gu w ((List.replicate m.toNat z'.cells.toList).flatten).toArray E.e) ?_ jA bT;unfold execOp; rw [ho];simp only;refine dG ?_;have := run_makeSlice (P := P) (t := t) (n := m.toNat) (k := k) (w := w) RA acV;rw [show ((m.toNat : Nat) : Int) = m from by omega] at this;rw [e1];exact this
end Go.Fw
namespace Go.Fw
section
variable {κ κ':aP} {w w':aA} {S S':aa Nat}
mutual
theorem aA9 (bz:∀b,bu κ w S b->bu κ' w' S' b/\Same w w' b):∀{c:CT} {p p':Pl} {x:aj} {a:A},RC κ w (c.roize S) p x a->RC κ' w' (c.roize S') p' x a
 | .d,_,_,_,.v _,h=>by simp only [CT.roize,RC] at h ⊢;exact h
 | .d,_,_,_,.s _,h=>by simp [CT.roize,RC] at h
 | .sl m e,p,p',x,.v _,h=>by simp [CT.roize,RC] at h
 | .sl m e,p,p',x,.s xs,h=>by
  simp only [CT.roize,RC] at h ⊢;obtain ⟨ao,cap,hx,dD,hc⟩:=h;refine ⟨ao,cap,hx,dD,?_⟩;rcases hc with h0|⟨b,o,rfl,hb,hr,he⟩
  ·exact .inl h0
  ·obtain ⟨di,gy⟩:=bz b hb;refine .inr ⟨b,o,rfl,di,by rw [dE] at hr ⊢;exact gy.rdb hr,?_⟩;refine IM (fun i _ hi => ?_) (ama bz he);rw [dE] at hr hi;exact gy.cD hr (by omega) (by omega)
theorem Sj (bz:∀b,bu κ w S b->bu κ' w' S' b/\Same w w' b):∀{cs:aa CT} {p p':Pl} {j:Nat} {get:Nat->aj} {as:aa A},aB κ w (CT.roizes S cs) p j get as->aB κ' w' (CT.roizes S' cs) p' j get as
 | [],_,_,_,_,[],_=>by simp [CT.roizes,aB]
 | c::cs,p,p',j,get,a::as,h=>by
  simp only [CT.roizes,aB] at h ⊢;exact ⟨aA9 bz h.1,Sj bz h.2⟩
 | [],_,_,_,_,_::_,h=>by simp [CT.roizes,aB] at h
 | _::_,_,_,_,_,[],h=>by simp [CT.roizes,aB] at h
theorem ama (bz:∀b,bu κ w S b->bu κ' w' S' b/\Same w w' b):∀{e:aa CT} {p p':Pl} {j:Nat} {get:Nat->aj} {xs:aa (aa A)},dF κ w (CT.roizes S e) p j get xs->dF κ' w' (CT.roizes S' e) p' j get xs
 | _,_,_,_,_,[],_=>by simp [dF]
 | e,p,p',j,get,x::xs,h=>by
  simp only [dF,dE] at h ⊢;exact ⟨Sj bz h.1,ama bz h.2⟩
end
end
mutual
def CT.shp:CT->CT
 | .d=>.d
 | .sl _ e=>.sl .dead (CT.shps e)
def CT.shps:aa CT->aa CT
 | []=>[]
 | c::cs=>c.shp::CT.shps cs
end
mutual
theorem asi (S:aa Nat):∀{c c':CT},c.shp=c'.shp->c.roize S=c'.roize S
 | .d,.d,_=>rfl
 | .sl m e,.sl m' e',h=>by
  simp only [CT.shp,CT.sl.injEq] at h;simp only [CT.roize];rw [C_ S h.2]
 | .d,.sl _ _,h=>by simp [CT.shp] at h
 | .sl _ _,.d,h=>by simp [CT.shp] at h
theorem C_ (S:aa Nat):∀{cs cs':aa CT},CT.shps cs=CT.shps cs'->CT.roizes S cs=CT.roizes S cs'
 | [],[],_=>rfl
 | c::cs,c'::cs',h=>by
  simp only [CT.shps,J_] at h;simp only [CT.roizes];rw [asi S h.1,C_ S h.2]
 | [],_::_,h=>by simp [CT.shps] at h
 | _::_,[],h=>by simp [CT.shps] at h
end
mutual
def CT.unpin:CT->CT
 | .d=>.d
 | .sl (.own _) e=>.sl (.own none) (CT.unpins e)
 | .sl m e=>.sl m (CT.unpins e)
def CT.unpins:aa CT->aa CT
 | []=>[]
 | c::cs=>c.unpin::CT.unpins cs
end
theorem iY:∀cs:aa CT,(CT.unpins cs).length=cs.length
 | []=>rfl
 | c::cs=>by simp [CT.unpins,iY cs]
mutual
theorem ag_ {κ:aP} {w:aA}:∀{c:CT} {p:Pl} {x:aj} {a:A},RC κ w c.unpin p x a↔RC κ w c p x a
 | .d,_,_,a=>by simp only [CT.unpin]
 | .sl (.own k) e,p,x,.s xs=>by
  simp only [CT.unpin,RC,iY];constructor
  ·rintro ⟨ao,cap,h1,h2,h3⟩;refine ⟨ao,cap,h1,h2,?_⟩;rcases h3 with h3|⟨b,o,g1,g2,g3,g4,g5⟩
   ·exact .inl h3
   ·exact .inr ⟨b,o,g1,g2,g3,g4,wC.1 g5⟩
  ·rintro ⟨ao,cap,h1,h2,h3⟩;refine ⟨ao,cap,h1,h2,?_⟩;rcases h3 with h3|⟨b,o,g1,g2,g3,g4,g5⟩
   ·exact .inl h3
   ·exact .inr ⟨b,o,g1,g2,g3,g4,wC.2 g5⟩
 | .sl (.ro S) e,p,x,.s xs=>by
  simp only [CT.unpin,RC,iY];constructor
  ·rintro ⟨ao,cap,h1,h2,h3⟩;refine ⟨ao,cap,h1,h2,?_⟩;rcases h3 with h3|⟨b,o,g1,g2,g3,g4⟩
   ·exact .inl h3
   ·exact .inr ⟨b,o,g1,g2,g3,wC.1 g4⟩
  ·rintro ⟨ao,cap,h1,h2,h3⟩;refine ⟨ao,cap,h1,h2,?_⟩;rcases h3 with h3|⟨b,o,g1,g2,g3,g4⟩
   ·exact .inl h3
   ·exact .inr ⟨b,o,g1,g2,g3,wC.2 g4⟩
 | .sl .dead e,p,x,.s xs=>by simp [CT.unpin,RC]
 | .sl .dead e,p,x,.v _=>by simp [CT.unpin,RC]
 | .sl (.own k) e,p,x,.v _=>by simp [CT.unpin,RC]
 | .sl (.ro S) e,p,x,.v _=>by simp [CT.unpin,RC]
theorem gI {κ:aP} {w:aA}:∀{cs:aa CT} {p:Pl} {j:Nat} {get:Nat->aj} {as:aa A},aB κ w (CT.unpins cs) p j get as↔aB κ w cs p j get as
 | [],_,_,_,_=>by simp only [CT.unpins]
 | c::cs,p,j,get,[]=>by simp [CT.unpins,aB]
 | c::cs,p,j,get,a::as=>by
  simp only [CT.unpins,aB];exact ⟨fun h=>⟨ag_.1 h.1,gI.1 h.2⟩,fun h=>⟨ag_.2 h.1,gI.2 h.2⟩⟩
theorem wC {κ:aP} {w:aA}:∀{e:aa CT} {p:Pl} {j:Nat} {get:Nat->aj} {xs:aa (aa A)},dF κ w (CT.unpins e) p j get xs↔dF κ w e p j get xs
 | _,_,_,_,[]=>by simp [dF]
 | e,p,j,get,x::xs=>by
  simp only [dF,iY];exact ⟨fun h=>⟨gI.1 h.1,wC.1 h.2⟩,fun h=>⟨gI.2 h.1,wC.2 h.2⟩⟩
end
def yT (p:aa Nat) (base n i:Nat) (q:aa Nat):ah Pl:=
 if p <+: q then match q.drop p.length with
  | m::q'=>if base<=m/\m<base+n then some (i,(m-base)::q') else none
  | []=>none
 else none
def gBp (p:aa Nat) (base:Nat):aa Nat->ah (aa Nat)
 | k::q=>some (p++(base+k)::q)
 | []=>none
theorem aA_ {p:aa Nat} {base n i k:Nat} {q:aa Nat} (hk:k<n):yT p base n i (p++(base+k)::q)=some (i,k::q):=by
 unfold yT;rw [if_pos (List.prefix_append _ _),Ka];simp only;rw [if_pos ⟨by omega,by omega⟩];simp
theorem Sl {p:aa Nat} {base n i:Nat} {q:aa Nat} (h:∀k,k<n->¬p++[base+k] <+: q):yT p base n i q=none:=by
 unfold yT;split
 ·rename_i hp;obtain ⟨r,rfl⟩:=hp;rw [Ka];cases r with
  | nil=>rfl
  | cons m q'=>
   simp only;split
   ·rename_i hm;exfalso;refine h (m-base) (by omega) ?_;rw [show base+(m-base)=m from by omega];exact ⟨q',by simp⟩
   ·rfl
 ·rfl
structure CallR (κ κi κ':aP) (w w':World) (np d:Nat) (r0:Option Nat) (gG:List Nat->Option Pl) (gB:List Nat->Option (List Nat)) (Sall:List Nat) (sg:aO):Prop where
 ki:κi=fV κ r0 gG Sall
 col0:∀b,w.heap.size<=b->κ b=none
 col:∀b,w'.heap.size<=b->κ' b=none
 fr:Fr κi w κ' w'
 fb:∀b q,κi b=some (FB,q)->κ' b=some (FB,q)/\Same w w' b
 mine:∀b r q,κ' b=some (r,q)->(r=FB/\∃q',κi b=some (FB,q'))\/r=np\/∃pm,sg.ps[r]?=some pm/\pm.mut=true
 npe:np=sg.ps.length
 npf:np<FB
section
variable {κ κi κ':aP} {w w':aA} {np d:Nat} {r0:ah Nat} {gG:aa Nat->ah Pl} {gB:aa Nat->ah (aa Nat)} {Sall:aa Nat} {sg:aO}
theorem asl (oC:∀r,r0=some r->r∉Sall) {b:Nat} (h:bu κ w Sall b) (i:Nat):bu (fV κ r0 gG Sall) w [i] b:=by
 refine ⟨h.1,fun r q hb => ?_⟩;exfalso;unfold fV at hb;cases hk:κ b with
 | none=>simp [hk] at hb
 | some p=>
  obtain ⟨r',q'⟩:=p;have:=h.2 r' q' hk;simp only [hk] at hb;rw [if_neg (fun he=>oC r' he.symm this.1),if_pos ⟨this.1,this.2⟩] at hb;cases hb
theorem CallR.res_ro (h:CallR κ κi κ' w w' np d r0 gG gB Sall sg) {S:aa Nat} (hS:∀r,r∈S->∃pm,sg.ps[r]?=some pm/\pm.mut=false) {b:Nat} (hb:bu κ' w' S b) :
  bu (gN κ κi κ' np d w.heap.size r0 gB) w' Sall b:=by
 refine ⟨hb.1,fun r q ho => ?_⟩;have hn:κ' b=none:=by
  cases hk:κ' b with
  | none=>rfl
  | some p=>
   obtain ⟨r',q'⟩:=p;exfalso;obtain ⟨hr,_⟩:=hb.2 r' q' hk;obtain ⟨pm,kK,axr⟩:=hS r' hr;have bZ:=(bn kK).1;rcases h.mine b r' q' hk with ⟨rfl,q2,hf⟩|jF|⟨pm',h1,h2⟩
   ·have h1:=h.npe;have h2:=h.npf;omega
   ·rw [h.npe] at jF;omega
   ·rw [kK] at h1;cases h1;rw [axr] at h2;cases h2
 unfold gN at ho;rw [hn] at ho;simp only at ho;split at ho;case isFalse=>cases ho
 case isTrue hc=>
 cases hk:κ b with
 | none=>simp [hk] at ho
 | some p=>
  obtain ⟨r',q'⟩:=p;have hi:=hc.1;rw [h.ki] at hi;simp only [fV,hk] at hi;simp only [hk,af,iV] at ho;split at ho;case isTrue=>cases ho
  case isFalse hd=>
  cases ho;split at hi
  ·split at hi<;>cases hi
  ·split at hi
   ·assumption
   ·cases hi
end
end Go.Fw
namespace Go.Fw
mutual
def CT.noro:CT->Bool
 | .d=>true
 | .sl (.own _) e=>CT.noros e
 | _=>false
def CT.noros:aa CT->Bool
 | []=>true
 | c::cs=>c.noro&&CT.noros cs
end
mutual
theorem adb {P:aa Nat->Prop}:∀{c:CT},c.noro=true->c.allS P
 | .d,_=>by simp [CT.allS]
 | .sl (.own _) e,h=>by simp only [CT.noro] at h;simp only [CT.allS];exact uB h
 | .sl (.ro _) e,h=>by simp [CT.noro] at h
 | .sl .dead e,h=>by simp [CT.noro] at h
theorem uB {P:aa Nat->Prop}:∀{cs:aa CT},CT.noros cs=true->CT.allSs P cs
 | [],_=>by simp [CT.allSs]
 | c::cs,h=>by
  simp only [CT.noros,aM] at h;simp only [CT.allSs];exact ⟨adb h.1,uB h.2⟩
end
theorem aha {κ κ':aP} {w w':aA} {S:aa Nat}:∀{cs:aa CT} {p p':Pl} {j:Nat} {get:Nat->aj} {as:aa A},qL cs=true->aB κ w cs p j get as->aB κ' w' (CT.roizes S cs) p' j get as
 | [],_,_,_,_,[],_,_=>by simp [CT.roizes,aB]
 | [],_,_,_,_,_::_,_,h=>by simp [aB] at h
 | _::_,_,_,_,_,[],_,h=>by simp [aB] at h
 | .sl m e::cs,_,_,_,_,_::_,hd,_=>by simp [qL] at hd
 | .d::cs,p,p',j,get,a::as,hd,h=>by
  simp only [CT.roizes,CT.roize,aB] at h ⊢;refine ⟨?_,aha (by simpa [qL] using hd) h.2⟩;cases a with
  | v y=>simpa only [RC] using h.1
  | s xs=>simp [RC] at h
theorem adc:∀{cs cs':aa CT},CT.shps cs=CT.shps cs'->qL cs'=true->qL cs=true
 | [],[],_,_=>rfl
 | c::cs,c'::cs',h,hd=>by
  simp only [CT.shps,J_] at h;simp only [qL,DV,aM] at hd ⊢;refine ⟨?_,adc h.2 hd.2⟩;cases c with
  | d=>rfl
  | sl m e=>cases c' with
   | d=>simp [CT.shp] at h
   | sl m' e'=>simp at hd
 | [],_::_,h,_=>by simp [CT.shps] at h
 | _::_,[],h,_=>by simp [CT.shps] at h
section
variable {κ:aP} {w:aA} {S:aa Nat}
mutual
theorem asn:∀{c:CT} {p p':Pl} {x:aj} {a:A},c.live=true->c.nown=true->c.allS (fun S0=>∀r,r∈S0->r∈S)->RC κ w c p x a->RC κ w (c.roize S) p' x a
 | .d,_,_,_,.v _,_,_,_,h=>by simp only [CT.roize,RC] at h ⊢;exact h
 | .sl (.own k) e,p,p',x,.s xs,hl,hn,hs,h=>by simp [CT.nown] at hn
 | .sl (.ro S0) e,p,p',x,.s xs,hl,hn,hs,h=>by
  simp only [CT.roize,RC,CT.allS,CT.live,CT.nown] at h hs hl hn ⊢;obtain ⟨ao,cap,hx,dD,hc⟩:=h;refine ⟨ao,cap,hx,dD,?_⟩;rcases hc with hn'|⟨b,o,rfl,hb,hr,he⟩
  ·exact .inl hn'
  ·exact .inr ⟨b,o,rfl,FZ hb hs.1,by rw [dE];exact hr,amc hl hn hs.2 he⟩
 | .sl .dead e,_,_,_,_,hl,_,_,_=>by simp [CT.live] at hl
 | .d,_,_,_,.s _,_,_,_,h=>by simp [RC] at h
 | .sl (.ro _) _,_,_,_,.v _,_,_,_,h=>by simp [RC] at h
 | .sl (.own _) _,_,_,_,.v _,_,_,_,h=>by simp [RC] at h
theorem amb:∀{cs:aa CT} {p p':Pl} {j:Nat} {get:Nat->aj} {as:aa A},CT.lives cs=true->CT.nowns cs=true->CT.allSs (fun S0=>∀r,r∈S0->r∈S) cs ->
  aB κ w cs p j get as->aB κ w (CT.roizes S cs) p' j get as
 | [],_,_,_,_,[],_,_,_,_=>by simp [CT.roizes,aB]
 | c::cs,p,p',j,get,a::as,hl,hn,hs,h=>by
  simp only [CT.roizes,CT.allSs,CT.lives,CT.nowns,aB,aM] at h hs hl hn ⊢;exact ⟨asn (p:=p.at j) hl.1 hn.1 hs.1 h.1,amb hl.2 hn.2 hs.2 h.2⟩
 | [],_,_,_,_,_::_,_,_,_,h=>by simp [aB] at h
 | _::_,_,_,_,_,[],_,_,_,h=>by simp [aB] at h
theorem amc:∀{e:aa CT} {p p':Pl} {j:Nat} {get:Nat->aj} {xs:aa (aa A)},CT.lives e=true->CT.nowns e=true->CT.allSs (fun S0=>∀r,r∈S0->r∈S) e ->
  dF κ w e p j get xs->dF κ w (CT.roizes S e) p' j get xs
 | e,_,_,_,_,[],_,_,_,_=>by simp [dF]
 | e,p,p',j,get,x::xs,hl,hn,hs,h=>by
  simp only [dF] at h ⊢;exact ⟨amb hl hn hs h.1,by rw [dE];exact amc hl hn hs h.2⟩
end
theorem av0 {p p':Pl} {get get':Nat->aj} {cs:aa CT} {j j':Nat} {as:aa A} (hl:CT.lives cs=true) (hn:CT.nowns cs=true)
  (hs:CT.allSs (fun S0=>∀r,r∈S0->r∈S) cs) (hg:∀i,i<cs.length->get' (j'+i)=get (j+i)) (h:aB κ w cs p j get as):aB κ w (CT.roizes S cs) p' j' get' as:=by
 induction cs generalizing j j' as with
 | nil=>cases as with
  | nil=>simp [CT.roizes,aB]
  | cons=>simp [aB] at h
 | cons c cs ih=>
  cases as with
  | nil=>simp [aB] at h
  | cons a as=>
   simp only [CT.roizes,CT.allSs,CT.lives,CT.nowns,aB,aM] at h hs hl hn ⊢;refine ⟨?_,ih hl.2 hn.2 hs.2 (fun i hi => ?_) h.2⟩
   ·have:=hg 0 (by simp);simp at this;rw [this];exact asn (p:=p.at j) hl.1 hn.1 hs.1 h.1
   ·have:=hg (i+1) (by simpa using hi);simpa [Nat.add_comm,R3,jm] using this
end
def rdX (P:aR) (g:Nat->TT) (ty:TypeId) (i:Nat) (ag:Bool) (cs:aa CT) (x:iN):ah (OX × aa Nat):=
 match qg P g ty i x with
 | some X=>if X.ag=ag/\CT.lives X.cs=true/\CT.beqs (CT.shps X.cs) (CT.shps cs)=true then some (X,if qL cs then [] else if CT.nowns X.cs then CT.srcss X.cs else X.t::CT.srcss X.cs) else none
 | none=>none
section
variable {P:aR} {ac:Nat->Nat->aj} {κ0 κ:aP} {w0 w:aA} {N:Nat} {tg g:Nat->TT} {sv s:Nat->AV} {a:Act}
theorem aso (h:R ac κ0 w0 κ w N tg sv (gm a)) (hL:Le g s tg sv) {ty:TypeId} {i:Nat} {ag:Bool} {cs:aa CT} {x:iN} {X:OX} {S:aa Nat} (hx:rdX P g ty i ag cs x=some (X,S)) {as:aa A} (hg:X.get s=some as)
  {r0:ah Nat} {gG:aa Nat->ah Pl} {Sall:aa Nat} (hS:∀r,r∈S->r∈Sall) (oC:∀r,r0=some r->r∉Sall):pW (fV κ r0 gG Sall) w i (a.eval x) as (.rd ag cs):=by
 unfold rdX at hx;split at hx;case h_2=>cases hx
 case h_1 X' hX=>
 split at hx;case isFalse=>cases hx
 case isTrue hc=>
 obtain ⟨N_,lW,aGr⟩:=hc;simp only [aK,bU] at hx;obtain ⟨rfl,hSe⟩:=hx;obtain ⟨vs,h1,h2,h3,_⟩:=rT h hL hX hg;have arJ:=CT.beqs_eq aGr;have bJ:X'.cs.length=cs.length:=by
  have:=congrArg (fun l=>(CT.roizes [] l).length) rfl (a₁:=X'.cs) (a₂:=X'.cs);have h4:=C_ [] arJ;have:=congrArg List.length h4;simpa [dE] using this
 refine ⟨vs,by rw [<-N_];exact h1,by rw [h2,bJ],?_⟩;rw [<-C_ [i] arJ];cases hD:qL cs with
 | true=>exact aha (adc arJ hD) h3
 | false=>
  rw [hD] at hSe;simp only [eQ,if_false] at hSe;by_cases hnw:CT.nowns X'.cs=true
  ·rw [if_pos hnw] at hSe;subst hSe;have h5:=av0 (S:=Sall) (p':=(i,[])) (j':=0) (get':=fun k=>vs.getD k undef) lW hnw (by
    have:=kN (S:=Sall) (cs:=X'.cs) fun r hr=>hS r hr
    exact this) (fun k _=>rfl) h3
   exact Sj (fun b hb=>⟨asl oC hb i,Same.refl w b⟩) h5
  rw [if_neg hnw] at hSe;subst hSe;have h5:=R7 (S:=Sall) (p':=(i,[])) (j':=0) (get':=fun k=>vs.getD k undef) lW (hS _ (by simp)) (by
   have:=kN (S:=Sall) (cs:=X'.cs) fun r hr=>hS r (by simp [hr])
   exact this) (fun k _=>rfl) h3
  exact Sj (fun b hb=>⟨asl oC hb i,Same.refl w b⟩) h5
end
structure AX where
 gets:List ((Nat->AV)->Option (List A))
 rd:List Nat
 S:List Nat
 sp:Option (Nat × PM × Operand)
def tF (g:Nat->TT) (pm:PM) (x:iN):ah (((Nat->AV)->ah (aa A)) × aa Nat):=
 match pm,x with
 | .tk _ _,.tmp t=>some (iM t,[t])
 | .mt _ _,.tmp t=>some (iM t,[t])
 | .mp _,.tmp t=>match g t with
  | .ptr r [] 0 _=>some (iM r,[r])
  | .box _=>some (iM t,[t])
  | _=>none
 | _,_=>none
def Da (P:aR) (g:Nat->TT):Nat->aa PM->aa iN->aa TypeId->ah AX
 | _,[],[],[]=>some ⟨[],[],[],none⟩
 | i,pm::ps,x::xs,ty::tys=>match Da P g (i+1) ps xs tys with
  | some Y=>match pm with
   | .rd ag cs=>match rdX P g ty i ag cs x with
    | some (X,S)=>some ⟨X.get::Y.gets,X.rd++Y.rd,S++Y.S,Y.sp⟩
    | none=>none
   | pm=>match Y.sp,tF g pm x with
    | none,some (f,rd)=>some ⟨f::Y.gets,rd++Y.rd,Y.S,some (i,pm,x)⟩
    | _,_=>none
  | none=>none
 | _,_,_,_=>none
def oI (s:Nat->AV):aa ((Nat->AV)->ah (aa A))->ah (aa (aa A))
 | []=>some []
 | f::fs=>match f s,oI s fs with
  | some as,some r=>some (as::r)
  | _,_=>none
section
variable {P:aR} {ac:Nat->Nat->aj} {κ0 κ:aP} {w0 w:aA} {N:Nat} {tg g:Nat->TT} {sv s:Nat->AV} {a:Act}
theorem vK (h:R ac κ0 w0 κ w N tg sv (gm a)) (hL:Le g s tg sv) {r0:ah Nat} {gG:aa Nat->ah Pl} {Sall:aa Nat} (oC:∀r,r0=some r->r∉Sall) :
  ∀{i:Nat} {ps:aa PM} {xs:aa iN} {tys:aa TypeId} {Y:AX} {ass:aa (aa A)},Da P g i ps xs tys=some Y->oI s Y.gets=some ass->(∀r,r∈Y.S->r∈Sall) ->
   (∀j pm x f rd as,Y.sp=some (j,pm,x)->tF g pm x=some (f,rd)->f s=some as->pW (fV κ r0 gG Sall) w j (a.eval x) as pm) ->
   xs.length=ps.length/\ass.length=ps.length/\(∀k pm x as,ps[k]?=some pm->(xs.map a.eval)[k]?=some x->ass[k]?=some as->pW (fV κ r0 gG Sall) w (i+k) x as pm) /\
   (∀j pm x,Y.sp=some (j,pm,x)->i<=j/\ps[j-i]?=some pm/\pm.mut=true/\xs[j-i]?=some x/\∃f rd as,tF g pm x=some (f,rd)/\f s=some as/\ass[j-i]?=some as) /\
   (∀k pm,ps[k]?=some pm->pm.mut=true->∃x,Y.sp=some (i+k,pm,x))
 | i,[],[],[],Y,ass,hx,hg,_,_=>by
  simp only [Da,aK] at hx
  subst hx
  simp only [oI,aK] at hg
  subst hg
  simp
 | i,pm::ps,x::xs,ty::tys,Y,ass,hx,hg,hS,sP=>by
  simp only [Da] at hx
  split at hx
  case h_2=>cases hx
  case h_1 Y' hY=>
  split at hx
  ·rename_i ag cs
   split at hx
   case h_2=>cases hx
   case h_1 X S hX=>
   cases hx
   simp only [oI] at hg
   split at hg
   case h_2=>cases hg
   case h_1 as ass' jL qC=>
   cases hg
   obtain ⟨k1,k2,k3,k4,k5⟩:=vK h hL oC hY qC (fun r hr=>hS r (by simp [hr])) (fun j pm x f rd as hj=>sP j pm x f rd as hj)
   refine ⟨by simp [k1],by simp [k2],fun k pm' x' as' h1 h2 h3 => ?_,fun j pm' x' hj => ?_,fun k pm' h1 h2 => ?_⟩
   ·cases k with
    | zero=>
     simp at h1 h2 h3
     subst h1 h2 h3
     exact aso h hL hX jL (fun r hr=>hS r (by simp [hr])) oC
    | succ k=>
     rw [show i+(k+1)=i+1+k from by omega]
     exact k3 k pm' x' as' (by simpa using h1) (by simpa using h2) (by simpa using h3)
   ·obtain ⟨g1,g2,g3,g4,f,rd,as',g5,g6,g7⟩:=k4 j pm' x' hj
    have e1:j-i=(j-(i+1))+1:=by omega
    rw [e1]
    exact ⟨by omega,by simpa using g2,g3,by simpa using g4,f,rd,as',g5,g6,by simpa using g7⟩
   ·cases k with
    | zero=>simp at h1;subst h1;simp [PM.mut] at h2
    | succ k=>
     obtain ⟨x',zh⟩:=k5 k pm' (by simpa using h1) h2
     exact ⟨x',by rw [show i+(k+1)=i+1+k from by omega];exact zh⟩
  ·rename_i aGs
   split at hx
   case h_2=>cases hx
   case h_1 f rd WW hsg=>
   cases hx
   simp only [oI] at hg
   split at hg
   case h_2=>cases hg
   case h_1 as ass' jL qC=>
   cases hg
   obtain ⟨k1,k2,k3,k4,k5⟩:=vK h hL oC hY qC (fun r hr=>hS r hr) (fun j pm x f rd as hj=>by rw [WW] at hj;cases hj)
   have axr:pm.mut=true:=by
    cases pm with
    | rd ag cs=>exact absurd rfl (aGs ag cs)
    | _=>rfl
   refine ⟨by simp [k1],by simp [k2],fun k pm' x' as' h1 h2 h3 => ?_,fun j pm' x' hj => ?_,fun k pm' h1 h2 => ?_⟩
   ·cases k with
    | zero=>
     simp at h1 h2 h3
     subst h1 h2 h3
     exact sP i pm x f rd as rfl hsg jL
    | succ k=>
     rw [show i+(k+1)=i+1+k from by omega]
     exact k3 k pm' x' as' (by simpa using h1) (by simpa using h2) (by simpa using h3)
   ·simp only [aK,bU] at hj
    obtain ⟨rfl,rfl,rfl⟩:=hj
    exact ⟨dV _,by simp,axr,by simp,f,rd,as,hsg,jL,by simp⟩
   ·cases k with
    | zero=>simp at h1;subst h1;exact ⟨x,rfl⟩
    | succ k=>
     obtain ⟨x',zh⟩:=k5 k pm' (by simpa using h1) h2
     rw [WW] at zh;cases zh
 | _,[],_::_,_,_,_,hx,_,_,_=>by simp [Da] at hx
 | _,[],[],_::_,_,_,hx,_,_,_=>by simp [Da] at hx
 | _,_::_,[],_,_,_,hx,_,_,_=>by simp [Da] at hx
 | _,_::_,_::_,[],_,_,hx,_,_,_=>by simp [Da] at hx
end
end Go.Fw
namespace Go.Fw
section
variable {ac:Nat->Nat->aj} {κ0 κ κ':aP} {w0 w w':aA} {N:Nat} {tg tg1 tg2:Nat->TT} {sv sv1:Nat->AV} {tm tm1:Nat->aj}
theorem agv (h:R ac κ0 w0 κ w N tg sv tm) (h':R ac κ0 w0 κ' w' N tg1 sv1 tm1) {r:Nat} {mods M X:aa Nat} (aEp:r∈mods)
  (hX:∀u,u∉X->tg1 u=(tg u).kill mods M/\tg2 u=(tg u).killS r mods M/\sv1 u=sv u/\tm1 u=tm u) (hX2:∀u,u∈X->tg2 u=tg1 u)
  (hb:(∃cb,tg r = .box cb)->(∃cb',tg1 r = .box cb')/\tm1 r=tm r):R ac κ0 w0 κ' w' N tg2 sv1 tm1:=by
 by_cases IJ:∃cb,tg r = .box cb
 ·obtain ⟨⟨cb',aGt⟩,qx⟩:=hb IJ;obtain ⟨cb,hcb⟩:=IJ;have hk:=h.tr r;rw [hcb] at hk;simp only [TR] at hk;obtain ⟨as2,b,_,k2,_⟩:=hk;refine al_ h' (r:=r) (b:=b) aGt (by rw [qx];exact k2) fun u => ?_
  by_cases hu:u∈X
  ·exact .inl (hX2 u hu)
  ·obtain ⟨e1,e2,e3,e4⟩:=hX u hu;by_cases gy:(tg u).killS r mods M=(tg u).kill mods M
   ·left;rw [e1,e2,gy]
   ·right;obtain ⟨off',S',hp,mR⟩:=Kn gy;have hu:=h.tr u;rw [hp] at hu;simp only [TR] at hu;obtain ⟨is',B,O,u1,u2,_,_,u5⟩:=hu;rw [hcb] at u2;simp only [iH,rb,k2,dx] at u2;have pK:is'=[]/\B=b/\O=0:=by
     cases is' with
     | nil=>simp only [wk,aK,bU] at u2;exact ⟨rfl,u2.1.symm,u2.2.symm⟩
     | cons=>simp [wk] at u2
    obtain ⟨rfl,rfl,rfl⟩:=pK;refine ⟨by rw [e1,hp];simp [TT.kill,aEp],?_,off',S',by rw [e2,mR,hp],by rw [e3];exact u1,by rw [e4];exact u5⟩;apply sW;intro dD;have:=h.out u dD;rw [hp] at this;cases this
 ·have:tg2=tg1:=by
   funext u;by_cases hu:u∈X
   ·exact hX2 u hu
   ·obtain ⟨e1,e2,_,_⟩:=hX u hu;rw [e1,e2];by_cases gy:(tg u).killS r mods M=(tg u).kill mods M
    ·exact gy
    ·exfalso;obtain ⟨off',S',hp,_⟩:=Kn gy;have hu:=h.tr u;rw [hp] at hu;simp only [TR] at hu;obtain ⟨is',B,O,u1,u2,_⟩:=hu;have:rb (tg r) (tm r)=none:=by
      cases hTr:tg r with
      | box cb=>exact absurd ⟨cb,hTr⟩ IJ
      | _=>simp [rb]
     rw [this] at u2;cases is' with
     | nil=>simp [iH,wk] at u2
     | cons=>simp [iH,wk] at u2
  rw [this];exact h'
end
def eZ (Sall:aa Nat):RS->TT
 | .u=>.dead
 | .one ag cs=>.val ag (CT.mapSs (fun _=>Sall) cs)
 | .tup ws cs=>.tup ws (CT.mapSs (fun _=>Sall) cs)
 | .bx cs=>.box (CT.mapSs (fun _=>Sall) cs)
def RS.cs:RS->aa CT
 | .u=>[]
 | .one _ cs=>cs
 | .tup _ cs=>cs
 | .bx cs=>cs
def jB (res:aa A):RS->AV
 | .u=>.n
 | _=>.v res []
def agw (sg:aO) (Sall:aa Nat):Bool:=
 (CT.srcss sg.res.cs).all (fun r=>match sg.ps[r]? with
  | some pm=>!pm.mut
  | none=>false)&&h_ (CT.mapSs (fun _=>Sall) sg.res.cs)
theorem Db {P:Nat->Prop}:(∀{c:CT},(∀r,r∈c.srcs->P r)->c.allS (fun S=>∀r,r∈S->P r))/\(∀{cs:aa CT},(∀r,r∈CT.srcss cs->P r)->CT.allSs (fun S=>∀r,r∈S->P r) cs):=⟨one,many⟩
where
 one {P:Nat->Prop}:∀{c:CT},(∀r,r∈c.srcs->P r)->c.allS (fun S=>∀r,r∈S->P r)
  | .d,_=>by simp [CT.allS]
  | .sl (.ro S0) e,h=>by
   simp only [CT.srcs,bP] at h
   simp only [CT.allS]
   exact ⟨fun r hr=>h r (.inl hr),many fun r hr=>h r (.inr hr)⟩
  | .sl (.own _) e,h=>by simp only [CT.srcs] at h;simp only [CT.allS];exact many h
  | .sl .dead e,h=>by simp only [CT.srcs] at h;simp only [CT.allS];exact many h
 many {P:Nat->Prop}:∀{cs:List CT},(∀r,r∈CT.srcss cs->P r)->CT.allSs (fun S=>∀r,r∈S->P r) cs
  | [],_=>by simp [CT.allSs]
  | c::cs,h=>by
   simp only [CT.srcss,bP] at h
   simp only [CT.allSs]
   exact ⟨one fun r hr=>h r (.inl hr),many fun r hr=>h r (.inr hr)⟩
section
variable {ac:Nat->Nat->aj} {κ κi κ':aP} {w w':aA} {np d:Nat} {r0:ah Nat} {gG:aa Nat->ah Pl} {gB:aa Nat->ah (aa Nat)} {Sall:aa Nat} {sg:aO}
theorem CallR.row (h:CallR κ κi κ' w w' np d r0 gG gB Sall sg) (hS:∀r,r∈CT.srcss sg.res.cs->∃pm,sg.ps[r]?=some pm/\pm.mut=false) {get get':Nat->aj} {as:aa A} (hr:aB κ' w' sg.res.cs (np,[]) 0 get as) (hg:∀i,i<sg.res.cs.length->get' i=get i) :
  aB (gN κ κi κ' np d w.heap.size r0 gB) w' (CT.mapSs (fun _=>Sall) sg.res.cs) (d,[]) 0 get' as:=by
 refine gH (f:=fun _=>Sall) (P:=fun S=>∀r,r∈S->∃pm,sg.ps[r]?=some pm/\pm.mut=false) (fun S hS b hb=>⟨h.res_ro hS hb,Same.refl w' b⟩) (Db.2 hS) (fun i hi b q hb=>⟨?_,Same.refl w' b⟩) (fun i hi=>by simpa using hg i hi) hr;unfold gN;rw [hb];simp
theorem CallR.tr (h:CallR κ κi κ' w w' np d r0 gG gB Sall sg) (a_:agw sg Sall=true) {v:aj} {res:aa A} (hr:aoM κ' w' np v res sg.res) (tg':Nat->TT) (sv:Nat->AV) (tm:Nat->aj) (jJ:sv d=jB res sg.res) (qx:tm d=v) :
  TR ac (gN κ κi κ' np d w.heap.size r0 gB) w' tg' sv tm d (eZ Sall sg.res):=by
 simp only [agw,aM,bW] at a_;have hS:∀r,r∈CT.srcss sg.res.cs->∃pm,sg.ps[r]?=some pm/\pm.mut=false:=by
  intro r hr;have:=a_.1 r hr;split at this
  ·rename_i pm kK;exact ⟨pm,kK,by simpa using this⟩
  ·cases this
 have cZ:=fun {get get':Nat->aj} {as:aa A}=>h.row hS (get:=get) (get':=get') (as:=as)
 have jy:=a_.2;cases kW:sg.res with
 | u=>simp [eZ,TR]
 | one ag cs=>
  rw [kW] at hr jJ jy cZ;simp only [RS.cs] at jy cZ;obtain ⟨vs,h1,h2,h3⟩:=hr;simp only [eZ,TR,jJ,qx,jB];exact ⟨res,vs,rfl,h1,by rw [gM];exact h2,gK jy,cZ h3 fun i _=>rfl⟩
 | tup ws cs=>
  rw [kW] at hr jJ jy cZ;simp only [RS.cs] at jy cZ;obtain ⟨xs,vs,h1,h2,h3,h4⟩:=hr;simp only [eZ,TR,jJ,qx,jB];exact ⟨res,xs,vs,rfl,h1,h2,by rw [gM];exact h3,cZ h4 fun i _=>rfl⟩
 | bx cs=>
  rw [kW] at hr jJ jy cZ;simp only [RS.cs] at jy cZ;obtain ⟨b,h1,h2,h3,h4,h5⟩:=hr;simp only [eZ,TR,jJ,qx,jB];refine ⟨res,b,rfl,h1,h2,?_,by rw [gM];exact h4,gK jy,cZ h5 fun i _=>rfl⟩;unfold gN;rw [h3];simp
theorem axN {cs:aa CT} {r j base n:Nat} {p:aa Nat} {get get':Nat->aj} {as:aa A} (hn:n=cs.length) (gU:CT.noros cs=true) (hg:∀i,i<cs.length->get' i=get (base+i)) (h:aB κ w cs (r,p) base get as) :
  aB (fV κ (some r) (yT p base n j) Sall) w cs (j,[]) 0 get' as:=by
 have:=gH (f:=id) (P:=fun _=>False) (κ:=κ) (w:=w) (κ':=fV κ (some r) (yT p base n j) Sall) (w':=w) (p':=(j,[])) (j':=0) (get':=get') (fun S hS=>hS.elim) (uB gU) (fun i hi b q hb=>⟨?_,Same.refl w b⟩) (fun i hi=>by simpa using hg i hi) h
 ·rwa [iU] at this
 ·unfold fV;rw [hb];simp only [if_true,dN,cB];rw [aA_ (by omega)]
theorem aBa {cs:aa CT} {r base:Nat} {p:aa Nat} {get get':Nat->aj} {as:aa A} {j:Nat} (hj:j≠np) (hjf:j≠FB) (gU:CT.noros cs=true) (hg:∀i,i<cs.length->get' (base+i)=get i) (h:aB κ' w' cs (j,[]) 0 get as) :
  aB (gN κ κi κ' np d w.heap.size (some r) (gBp p base)) w' cs (r,p) base get' as:=by
 have:=gH (f:=id) (P:=fun _=>False) (κ:=κ') (w:=w') (κ':=gN κ κi κ' np d w.heap.size (some r) (gBp p base)) (w':=w') (p':=(r,p)) (j':=base) (get':=get') (fun S hS=>hS.elim) (uB gU) (fun i hi b q hb=>⟨?_,Same.refl w' b⟩) (fun i hi=>by simpa using hg i hi) h
 ·rwa [iU] at this
 ·unfold gN;rw [hb];simp only [dN,cB,if_neg hj,if_neg hjf,gBp]
theorem CallR.old (h:CallR κ κi κ' w w' np d r0 gG gB Sall sg) {b:Nat} {r:Nat} {q:aa Nat} (hk:κ b=some (r,q)) (hg:some r=r0->gG q=none) (hS:some r≠r0->¬(r∈Sall/\q≠[])) (hd:r≠d) :
  gN κ κi κ' np d w.heap.size r0 gB b=κ b/\Same w w' b:=by
 have hi:κi b=some (FB,[0]):=by
  rw [h.ki];unfold fV;rw [hk];simp only;split
  ·rename_i he;rw [hg he]
  ·rename_i he;rw [if_neg (hS he)]
 obtain ⟨h1,h2⟩:=h.fb b _ hi;refine ⟨?_,h2⟩;unfold gN;rw [h1];have h3:=h.npf;simp only;rw [if_neg (by omega),if_pos trivial,hk];simp [iV,hd]
end
end Go.Fw
namespace Go.Fw
section
variable {ac:Nat->Nat->aj} {κ0 κ κi κ':aP} {w0 w w':aA} {N:Nat} {tg:Nat->TT} {sv:Nat->AV} {tm:Nat->aj}
theorem amd {w:aA} {b lo hi:Nat} (h:Wrb w b lo hi):Rdb w b lo hi:=fun o h1 h2=>(h o h1 h2).1
theorem ade {r:Nat} {cs e:aa CT} {sk:Sk} {is:aa Nat} {get g:Nat->aj} {ra row:aa A} (fF:aB κ w cs (r,[]) 0 get ra) (he:iF true cs sk=some e) (hl:b_ ra sk is=some row)
  (hp:gq w get sk is=some g) :
  aB κ w e (r,(bX [] 0 sk is).1) (bX [] 0 sk is).2 (fun k=>g (k-(bX [] 0 sk is).2)) row:=by
 cases sk with
 | nil=>
  cases is with
  | cons=>simp [b_] at hl
  | nil=>
   simp only [iF,aK] at he;simp only [b_,aK] at hl;simp only [gq,aK] at hp;subst he hl hp;simpa [bX] using fF
 | cons s0 sk=>
  obtain ⟨b,o,h1,_,_,h4⟩:=DL (bo:=none) (by simp) fF he hl;simp only [gq,cO] at hp;obtain ⟨BO,h5,rfl⟩:=hp;simp only [cB] at h1;rw [h5] at h1;cases h1;refine mD (fun i hi _ => ?_) h4;show cellD w b _=cellD w b _;congr 1;omega
theorem CallR.place {np d:Nat} {gB:aa Nat->ah (aa Nat)} {Sall:aa Nat} {sg:aO} {r j off n:Nat} {cs c e:aa CT} {sk:Sk} {is:aa Nat} {get get' g:Nat->aj} {ra row as':aa A}
  (h:CallR κ κi κ' w w' np d (some r) (yT (bX [] 0 sk is).1 ((bX [] 0 sk is).2+off) n j) gB Sall sg) (hgB:gB=gBp (bX [] 0 sk is).1 ((bX [] 0 sk is).2+off)) (hd:r≠d) (hj:j≠np) (hjf:j≠FB)
  (fF:aB κ w cs (r,[]) 0 get ra) (hm:CT.mens [r] cs=false) (he:iF true cs sk=some e) (hl:b_ ra sk is=some row) (hp:gq w get sk is=some g)
  (bz:∀S,(∀m,m∈[r]->m∉S)->∀b,bu κ w S b->bu (gN κ κi κ' np d w.heap.size (some r) gB) w' S b/\Same w w' b)
  (hn:n=c.length) (yR:off+n<=e.length) (hce:CT.unpins ((e.drop off).take n)=CT.unpins c) (gU:CT.noros c=true)
  (arK:aB κ' w' c (j,[]) 0 (fun k=>g (off+k)) as') (Al:∀k,k<cs.length->get' k=get k) :
  aB (gN κ κi κ' np d w.heap.size (some r) gB) w' cs (r,[]) 0 get' (lJ ra sk is (splice row off as')):=by
 have cZ:=ade fF he hl hp;have agM:as'.length=n:=by rw [dH arK,hn]
 have gX:∀k,k<n->((e.drop off).take n)[k]?=e[off+k]?:=fun k hk=>by rw [qR hk,oF]
 have hS:=fw (M:=[r]) (P:=fun S=>∀b,bu κ w S b->bu (gN κ κi κ' np d w.heap.size (some r) gB) w' S b/\Same w w' b) (fun S hS b hb=>bz S hS b hb) hm;have hme:=fw (M:=[r]) (P:=fun S=>∀b,bu κ w S b->bu (gN κ κi κ' np d w.heap.size (some r) gB) w' S b/\Same w w' b) (fun S hS b hb=>bz S hS b hb) (Bb hm he)
 -- the row,new
 have vC:∀getr:Nat->aj,(∀k,k<e.length->getr ((bX [] 0 sk is).2+k)=g k) ->
   aB (gN κ κi κ' np d w.heap.size (some r) gB) w' e (r,(bX [] 0 sk is).1) (bX [] 0 sk is).2 getr (splice row off as'):=by
  intro getr gY;have hrl:=dH cZ;refine lY (by rw [lK (by omega)];exact hrl) fun k ck a hc ha => ?_
  rw [nK (by omega)] at ha;have hk:=(bn hc).1;by_cases bF:off<=k/\k<off+n
  ·rw [if_neg (by omega),if_pos (by omega)] at ha;have pz:=aBa (κ:=κ) (κi:=κi) (w:=w) (d:=d) (np:=np) (r:=r) (base:=(bX [] 0 sk is).2+off) (p:=(bX [] 0 sk is).1) (get':=fun q=>getr q) hj hjf gU (fun i hi=>by
    have:=gY (off+i) (by omega)
    rw [show (bX [] 0 sk is).2+off+i=(bX [] 0 sk is).2+(off+i) from by omega];exact this) arK
   rw [<-hgB] at pz;have ay9:=gI.2 pz;rw [<-hce] at ay9;have aEq:=gI.1 ay9;have hh:=gZ aEq (k:=k-off) (c:=ck) (a:=a) (by rw [gX _ (by omega),show off+(k-off)=k from by omega];exact hc) ha;rw [show (bX [] 0 sk is).2+off+(k-off)=(bX [] 0 sk is).2+k from by omega] at hh;exact hh
  ·have RF:row[k]?=some a:=by
    by_cases h1:k<off
    ·rwa [if_pos h1] at ha
    ·rw [if_neg h1,if_neg (by omega)] at ha;exact ha
   have h0:=gZ cZ hc RF;have hg2:getr ((bX [] 0 sk is).2+k)=g ((bX [] 0 sk is).2+k-(bX [] 0 sk is).2):=by rw [gY k hk];congr 1;omega
   rw [hg2];refine wu (allS_nth hme hc) (fun b q hb => ?_) h0;refine h.old hb (fun _=>Sl fun m hm fe => ?_) (fun bv=>absurd rfl bv) hd;simp only [Pl.at] at fe;rw [fJ] at fe;have h5:=List.IsPrefix.trans fe (List.prefix_refl _);have h6:=(List.prefix_append_right_inj (bX [] 0 sk is).1).1 h5;obtain ⟨t,ht⟩:=h6;simp at ht;omega
 cases sk with
 | nil=>
  cases is with
  | cons=>simp [b_] at hl
  | nil=>
   simp only [iF,aK] at he;simp only [b_,aK] at hl;simp only [gq,aK] at hp;subst he hl hp;have:=vC get' (fun k hk=>by simpa [bX] using Al k hk);simpa [bX,lJ] using this
 | cons s0 sk=>
  obtain ⟨b,o,h1,h2,h3,h4⟩:=DL (bo:=none) (by simp) fF he hl;have NZ:=hp;simp only [gq,cO] at NZ;obtain ⟨BO,h5,hg⟩:=NZ;simp only [cB] at h1;rw [h5] at h1;cases h1;obtain ⟨hB1,hB2⟩:=h.old h2 (fun _=>Sl fun m hm fe=>by
   have:=fe.length_le
   rw [bq,J5] at this
   omega) (fun bv=>absurd rfl bv) hd
  have wT:b<w.heap.size:=by
   apply sW;intro dD;rw [h.col0 b dD] at h2;cases h2
  have key:=IQ (κ':=gN κ κi κ' np d w.heap.size (some r) gB) (w':=w') (x':=splice row off as') (bo:=none) (B:=b) (O:=o+(bX [] 0 (s0::sk) is).2) (by simp) fF he hl (by simpa using h5) hS
   (fun b' q hb bv jy=>h.old hb (fun _=>Sl fun m hm fe=>jy (off+m) (by omega) (by rw [<-jm];exact fe)) (fun bv=>absurd rfl bv) hd)
   (fun {b} hb=>mU hb h.fr.size) hB1 (fun o' y _ hy=>hB2.2 o' y hy) (hB2.wrb h3) (fun o' nV=>by
    have:o'=o:=by omega
    subst this
    refine vC _ fun k hk => ?_
    have h6:=hB2.cD (amd h3) (show o'+(bX [] 0 (s0::sk) is).2<=o'+((bX [] 0 (s0::sk) is).2+k) by omega) (by omega)
    rw [h6,<-hg]
    show cellD w b _=cellD w b _
    congr 1;omega)
  exact mD (fun i _ hi=>Al i (by omega)) key
where
 allS_nth {P:List Nat->Prop}:∀{cs:List CT} {k:Nat} {c:CT},CT.allSs P cs->cs[k]?=some c->c.allS P
  | c::cs,0,c',h,hc=>by simp at hc;subst hc;simp only [CT.allSs] at h;exact h.1
  | c::cs,k+1,c',h,hc=>by simp only [CT.allSs] at h;exact allS_nth h.2 (by simpa using hc)
  | [],_,_,_,hc=>by simp at hc
end
end Go.Fw
namespace Go.Fw
def Cs (c c':aa CT):Bool:=CT.beqs (CT.unpins c) (CT.unpins c')&&CT.noros c&&CT.noros c'&&CT.lives c'
theorem uC {c c':aa CT} (h:Cs c c'=true):CT.unpins c=CT.unpins c'/\CT.noros c=true/\CT.noros c'=true:=by
 simp only [Cs,aM] at h;exact ⟨CT.beqs_eq h.1.1.1,h.1.1.2,h.1.2⟩
theorem I1 {c c':aa CT} (h:Cs c c'=true):c.length=c'.length:=by
 have:=congrArg List.length (uC h).1;simpa [iY] using this
theorem Sm {κ:aP} {w:aA} {c c':aa CT} {p:Pl} {j:Nat} {get:Nat->aj} {as:aa A} (h:Cs c c'=true) (hr:aB κ w c p j get as):aB κ w c' p j get as:=by
 have h1:=gI.2 hr;rw [(uC h).1] at h1;exact gI.1 h1
mutual
def CT.roS:CT->aa Nat
 | .d=>[]
 | .sl (.ro S) e=>S++CT.roSs e
 | .sl _ e=>CT.roSs e
def CT.roSs:aa CT->aa Nat
 | []=>[]
 | c::cs=>c.roS++CT.roSs cs
end
mutual
theorem av1:∀{c:CT} {X:aa Nat},(∀m,m∈c.roS->m∈X)->c.allS (fun S=>∀m,m∈S->m∈X)
 | .d,_,_=>by simp [CT.allS]
 | .sl (.ro S) e,X,h=>by
  simp only [CT.roS,bP] at h;simp only [CT.allS];exact ⟨fun m hm=>h m (.inl hm),pX fun m hm=>h m (.inr hm)⟩
 | .sl (.own _) e,X,h=>by
  simp only [CT.roS] at h;simp only [CT.allS];exact pX h
 | .sl .dead e,X,h=>by
  simp only [CT.roS] at h;simp only [CT.allS];exact pX h
theorem pX:∀{cs:aa CT} {X:aa Nat},(∀m,m∈CT.roSs cs->m∈X)->CT.allSs (fun S=>∀m,m∈S->m∈X) cs
 | [],_,_=>by simp [CT.allSs]
 | c::cs,X,h=>by
  simp only [CT.roSs,bP] at h;simp only [CT.allSs];exact ⟨av1 fun m hm=>h m (.inl hm),pX fun m hm=>h m (.inr hm)⟩
end
def XE (c c':aa CT):Bool:=CT.beqs (CT.unpins (CT.mapSs (fun _=>[]) c)) (CT.unpins c')&&CT.lives c'&&(CT.srcss (CT.unpins c')).isEmpty&&h_ (CT.unpins c')
inductive SK where
 | no
 | tk (t:Nat)
 | mt (r:Nat) (sk:Sk) (off n t j:Nat)
 | mp (r:Nat) (cr cs:List CT) (j:Nat)
def SK.r0:SK->ah Nat
 | .no=>none
 | .tk t=>some t
 | .mt r _ _ _ _ _=>some r
 | .mp r _ _ _=>some r
def spK (N:Nat) (g:Nat->TT):ah (Nat × PM × iN)->ah SK
 | none=>some .no
 | some (_,.tk ag cs,.tmp t)=>match g t with
  | .val ag' cs'=>if ag'=ag/\Cs cs' cs=true/\t<N then some (.tk t) else none
  | _=>none
 | some (j,.mt ag cs,.tmp t)=>match g t with
  | .val ag' cs'=>if ag'=ag/\Cs cs' cs=true/\CT.mens [t] cs'=false/\t<N then some (.mt t [] 0 cs.length t j) else none
  | .alias ag' ca r sk off _=>match (g r).cts with
   | some cr=>match iF true cr sk with
    | some e=>if ag'=ag/\ca.length=cs.length/\off+cs.length<=e.length/\Cs ((e.drop off).take cs.length) cs=true/\CT.mens [r] cr=false/\r<N then some (.mt r sk off cs.length t j) else none
    | none=>none
   | none=>none
  | _=>none
 | some (j,.mp cs,.tmp t)=>match g t with
  | .ptr r [] 0 _=>match g r with
   | .box cr=>if XE cr cs=true/\r<N then some (.mp r cr cs j) else none
   | _=>none
  | .box cr=>if XE cr cs=true/\t<N then some (.mp t cr cs j) else none
  | _=>none
 | _=>none
def aoX (t:Nat) (s:Nat->AV):ah (aa Nat):=
 match s t with
 | .v _ is=>some is
 | _=>none
def SK.post (rs:RS) (res:aa A) (outs:aa (aa A)) (s:Nat->AV):SK->ah (aa AV)
 | .no=>some [jB res rs]
 | .tk _=>some [jB res rs]
 | .mt r sk off _ t j=>match aoX t s,iM r s,outs[j]? with
  | some is,some ra,some o=>match b_ ra sk is with
   | some row=>some [jB res rs,.v (lJ ra sk is (splice row off o)) []]
   | none=>none
  | _,_,_=>none
 | .mp _ _ _ j=>match outs[j]? with
  | some o=>some [jB res rs,.v o []]
  | none=>none
def SK.all (S:aa Nat):SK->aa Nat
 | .mp _ cr _ _=>S++CT.roSs cr
 | _=>S
def SK.up (g:Nat->TT) (S:aa Nat):SK->aa (Nat × TT)
 | .no=>[]
 | .tk t=>[(t,.dead)]
 | .mt r _ _ _ _ _=>[(r,g r)]
 | .mp r cr cs _=>[(r,.box (CT.mapSs (fun _=>S++CT.roSs cr) (CT.unpins cs)))]
def SK.kl (d:Nat):SK->TT->TT
 | .no=>fun T=>T.kill [d] []
 | .tk t=>fun T=>T.kill [d,t] [t]
 | .mt r _ _ _ _ _=>fun T=>T.killS r [d,r] [r]
 | .mp r _ _ _=>fun T=>T.killS r [d,r] [r]
def SK.rd:SK->aa Nat
 | .no=>[]
 | .tk t=>[t]
 | .mt r _ _ _ t _=>[r,t]
 | .mp r _ _ _=>[r]
def abY (P:aR) (sigs:FuncId->ah aO) (N:Nat) (g:Nat->TT) (o:bS):ah Stp:=
 match o.dst,o.op with
 | some d,.call c=>match c.callee with
  | .value (.func K)=>match P.funcs[K]?,sigs K with
   | some fn,some sg=>match Da P g 0 sg.ps c.args.toList fn.params.toList with
    | some Y=>match spK N g Y.sp with
     | some k=>
      if d < N ∧ (fn.name == "runtime.NumGoroutine") = false ∧ fn.body.isNone = false ∧ (∀ r, k.r0 = some r → r ∉ k.all Y.S ∧ r ≠ d) ∧ agw sg (k.all Y.S) = true ∧ sg.ps.length < FB then
       some ⟨(d,eZ (k.all Y.S) sg.res)::k.up g Y.S,k.kl d,Y.rd++k.rd,.call K sg (fun s=>oI s Y.gets) fun res outs s=>k.post sg.res res outs s⟩
      else none
     | none=>none
    | none=>none
   | _,_=>none
  | _=>none
 | _,_=>none
theorem adf {P:aR} {o:bS} {a:Act} {w:aA} {K:FuncId} {fn:Func} {args:Array iN} {ats:Array TypeId} (ho:o.op = .call { callee:=.value (.func K),args,argTypes:=ats })
  (hf : P.funcs[K]? = some fn) (hn : (fn.name == "runtime.NumGoroutine") = false) (hb : fn.body.isNone = false) : (execOp a.eval o).run P w = .ok (.enter K (args.map a.eval)) w := by
 unfold execOp;rw [ho];show ((do let d <-Deferred.ofValue (a.eval (.func K)) (args.map a.eval);invoke d.target d.args):Sem Next).run P w=_;have h1:(Deferred.ofValue (a.eval (.func K)) (args.map a.eval)).run P w = .ok { target:=.fn (.func K) #[],args := #[]++args.map a.eval } w:=rfl;rw [aF h1];show (callFunc K ((#[]++args.map a.eval) ++ #[])).run P w=_;unfold callFunc;have h2:(program:Sem aR).run P w = .ok P w:=rfl;rw [aF h2];simp only [hf,hn,hb,eQ,if_false,Array.empty_append,Array.append_empty];rfl
section
variable {P:aR} {κ:aP} {w:aA} {o:bS} {a:Act} {next:Act->aA->Prop} {Q:Exit->Act->aA->Prop}
theorem zB {K:FuncId} {args:Array iN} {sg:aO} {ass:aa (aa A)} {res:aa A} {outs:aa (aa A)} {r0:ah Nat} {gG:aa Nat->ah Pl} {gB:aa Nat->ah (aa Nat)} {Sall:aa Nat} {d:Nat}
  (pO:(execOp a.eval o).run P w = .ok (.enter K (args.map a.eval)) w) (DK:Good P K sg ass res outs) (kw:∀b,w.heap.size<=b->κ b=none)
  (Oa:args.toList.length=sg.ps.length) (qA:ass.length=sg.ps.length) (jy:sg.ps.length<FB)
  (hG:∀q p,r0≠none->gG q=some p->∃pm,sg.ps[p.1]?=some pm/\pm.mut=true)
  (Hl:∀k pm x as,sg.ps[k]?=some pm->(args.toList.map a.eval)[k]?=some x->ass[k]?=some as->pW (fV κ r0 gG Sall) w k x as pm)
  (k:∀v κ' w',CallR κ (fV κ r0 gG Sall) κ' w w' sg.ps.length d r0 gG gB Sall sg->aoM κ' w' sg.ps.length v res sg.res ->
   (∀i pm x as,sg.ps[i]?=some pm->(args.toList.map a.eval)[i]?=some x->outs[i]?=some as->aoL κ' w' i x as pm)->next (a.put o.dst v) w'):o.wp P a w next Q:=by
 unfold Oper.wp;rw [pO,Oper.upon_enter];have arE:Mine sg (fV κ r0 gG Sall):=by
  intro b r q hb;unfold fV at hb;cases hk:κ b with
  | none=>simp [hk] at hb
  | some p=>
   obtain ⟨r',q'⟩:=p;simp only [hk] at hb;split at hb
   ·rename_i he;split at hb
    ·rename_i p hp;cases hb;exact .inr (hG q' _ (by rw [<-he];simp) hp)
    ·cases hb;exact .inl rfl
   ·split at hb
    ·cases hb
    ·cases hb;exact .inl rfl
 have:=DK (fV κ r0 gG Sall) w (args.toList.map a.eval) (fun b hb=>by unfold fV;rw [kw b hb]) arE (by simpa using Oa) qA Hl;have hcv:(args.toList.map a.eval).toArray=args.map a.eval:=by rw [<-Xh]
 rw [hcv] at this;refine Calls.mono this fun e w' he => ?_
 obtain ⟨v,κ',rfl,hp⟩:=he;exact k v κ' w' ⟨rfl,kw,hp.col,hp.fr,hp.fb,hp.mine,rfl,jy⟩ hp.res hp.outs
end
end Go.Fw
namespace Go.Fw
section
variable {P:aR} {ac:Nat->Nat->aj} {κ0 κ:aP} {w0 w:aA} {N:Nat} {tg g:Nat->TT} {sv s:Nat->AV} {a:Act}
theorem ahb (h:R ac κ0 w0 κ w N tg sv (gm a)) {t j:Nat} {ag:Bool} {cs cs':aa CT} (ht:tg t = .val ag cs') (a_:Cs cs' cs=true) {as:aa A} {is:aa Nat} (hs:sv t = .v as is) {Sall:aa Nat} {pm:PM}
  (kK:pm = .tk ag cs\/pm = .mt ag cs):pW (fV κ (some t) (yT [] 0 cs.length j) Sall) w j (gm a t) as pm:=by
 have h1:=h.tr t;rw [ht] at h1;simp only [TR] at h1;obtain ⟨as',vs,g1,g2,g3,_,g5⟩:=h1;rw [hs] at g1;cases g1;have:=axN (κ:=κ) (w:=w) (Sall:=Sall) (j:=j) (n:=cs.length) (get':=fun k=>vs.getD k undef) rfl (uC a_).2.2 (fun i _=>by simp) (Sm a_ g5);rcases kK with rfl|rfl
 ·exact ⟨vs,g2,by rw [g3,I1 a_],this⟩
 ·exact ⟨vs,g2,by rw [g3,I1 a_],this⟩
theorem azP (h:R ac κ0 w0 κ w N tg sv (gm a)) {t r j off:Nat} {sk:Sk} {S0:aa Nat} {ag:Bool} {ca cs cr e:aa CT} (ht:tg t = .alias ag ca r sk off S0) (hr:(tg r).cts=some cr) (he:iF true cr sk=some e)
  (hl:ca.length=cs.length) (yR:off+cs.length<=e.length) (a_:Cs ((e.drop off).take cs.length) cs=true) {as:aa A} {is:aa Nat} (hs:sv t = .v as is) {Sall:aa Nat} :
  pW (fV κ (some r) (yT (bX [] 0 sk is).1 ((bX [] 0 sk is).2+off) cs.length j) Sall) w j (gm a t) as (.mt ag cs):=by
 have h1:=h.tr t;rw [ht] at h1;simp only [TR] at h1;obtain ⟨as',is',vs,gf,ra,row,g1,g2,g3,gl,g4,g5,g6,g7,g8,g9,g10,g11,g12⟩:=h1;rw [hs] at g1;cases g1;have fF:=h.root hr g10;have cZ:=ade fF he g11 g5;have h2:=mH cs.length (mG off cZ);rw [hl] at g12 g3;rw [<-g12] at h2;have h3:=Sm a_ h2;exact ⟨vs,g2,g3,axN rfl (uC a_).2.2 (fun i hi=>by
  show vs.getD i undef=gf ((bX [] 0 sk is).2+off+i-(bX [] 0 sk is).2)
  rw [show (bX [] 0 sk is).2+off+i-(bX [] 0 sk is).2=off+i from by omega]
  exact (g9 i (by omega)).1.symm) h3⟩
theorem aBb (h:R ac κ0 w0 κ w N tg sv (gm a)) {r j:Nat} {cr cs:aa CT} (hr:tg r = .box cr) (a_:XE cr cs=true) {as:aa A} {is:aa Nat} (hs:sv r = .v as is) {Sall:aa Nat} (hrS:r∉Sall) (hS:∀m,m∈CT.roSs cr->m∈Sall) {x:aj} (hx:x=gm a r) :
  pW (fV κ (some r) (fun q=>some (j,q)) Sall) w j x as (.mp cs):=by
 have h1:=h.tr r;rw [hr] at h1;simp only [TR] at h1;obtain ⟨as',b,g1,g2,g3,g4,g5,g6,g7⟩:=h1;rw [hs] at g1;cases g1;subst hx;simp only [XE,aM] at a_;have rE:=CT.beqs_eq a_.1.1.1;have hl:cr.length=cs.length:=by
  have:=congrArg List.length rE;simpa [iY,gM] using this
 refine ⟨b,g2,g3,?_,by rw [<-hl];exact g5,?_⟩
 ·unfold fV;rw [g4];simp
 ·have:=gH (f:=fun _=>[]) (P:=fun S=>∀m,m∈S->m∈Sall) (κ:=κ) (w:=w) (κ':=fV κ (some r) (fun q=>some (j,q)) Sall) (w':=w) (p':=(j,[])) (j':=0) (get':=cellD w b) (fun S hS b' hb=>⟨⟨hb.1,fun r' q hq => ?_⟩,Same.refl w b'⟩) (pX hS) (fun i hi b' q hb=>⟨?_,Same.refl w b'⟩) (fun i hi=>rfl) g7
  ·have h2:=gI.2 this;rw [rE] at h2;exact gI.1 h2
  ·exfalso;unfold fV at hq;cases hk:κ b' with
   | none=>simp [hk] at hq
   | some p=>
    obtain ⟨r2,q2⟩:=p;obtain ⟨h3,h4⟩:=hb.2 _ _ hk;have h5:=hS _ h3;have h6:r2≠r:=by rintro rfl;exact hrS h5
    simp [hk,h6,h5,h4] at hq
  ·unfold fV;rw [hb];simp
theorem I4 (h:R ac κ0 w0 κ w N tg sv (gm a)) {κ':aP} {w':aA} {np d:Nat} {r0:ah Nat} {gG:aa Nat->ah Pl} {gB:aa Nat->ah (aa Nat)} {Sall:aa Nat} {sg:aO} (hc:CallR κ (fV κ r0 gG Sall) κ' w w' np d r0 gG gB Sall sg)
  (hd:d<N) (oC:∀r,r0=some r->r<N/\r≠d) {v:aj} {tg':Nat->TT} {sv':Nat->AV}
  (sK:∀r,r≠d->some r≠r0->tg' r=(tg r).kill (d::r0.toList) r0.toList) (jJ:∀r,r≠d->some r≠r0->sv' r=sv r)
  (hTd:TR ac (gN κ (fV κ r0 gG Sall) κ' np d w.heap.size r0 gB) w' tg' sv' (upd (gm a) d v) d (tg' d))
  (BM:∀r,r0=some r->TR ac (gN κ (fV κ r0 gG Sall) κ' np d w.heap.size r0 gB) w' tg' sv' (upd (gm a) d v) r (tg' r)) :
  R ac κ0 w0 (gN κ (fV κ r0 gG Sall) κ' np d w.heap.size r0 gB) w' N tg' sv' (upd (gm a) d v):=by
 have h1:=hc.npe;have h2:=hc.npf;refine aA3 h hd (fun r hr=>(oC r hr).1) rfl (by omega) hc.col hc.fr hc.fb (fun b q hb => ?_) sK jJ (fun r hr _=>upd_ne _ _ _ hr) hTd (fun r hr _=>BM r hr);rcases hc.mine b FB q hb with ⟨_,h3⟩|h3|⟨pm,h3,_⟩
 ·exact h3
 ·omega
 ·have:=(bn h3).1;omega
theorem av2 (h:R ac κ0 w0 κ w N tg sv (gm a)) {κ':aP} {w':aA} {np d r:Nat} {gG:aa Nat->ah Pl} {gB:aa Nat->ah (aa Nat)} {Sall:aa Nat} {sg:aO} (hc:CallR κ (fV κ (some r) gG Sall) κ' w w' np d (some r) gG gB Sall sg) :
  ∀S,(∀m,m∈[r]->m∉S)->∀b,bu κ w S b->bu (gN κ (fV κ (some r) gG Sall) κ' np d w.heap.size (some r) gB) w' S b/\Same w w' b:=by
 intro S hS b hb;have bv:∀r' q,κ b=some (r',q)->r'≠r:=fun r' q hk he=>hS r (by simp) (by rw [<-he];exact (hb.2 r' q hk).1)
 have hi:fV κ (some r) gG Sall b=none\/fV κ (some r) gG Sall b=some (FB,[0]):=by
  unfold fV;cases hk:κ b with
  | none=>exact .inl rfl
  | some p=>
   obtain ⟨r',q⟩:=p;simp only;rw [if_neg (fun he=>bv r' q hk (by simpa using he))];split
   ·exact .inl rfl
   ·exact .inr rfl
 have aJc:=hc.npf;have clr:∀r' q,(κ b).bind (iV d)=some (r',q)->r'∈S/\q≠[]:=by
  intro r' q hk;cases hκ:κ b with
  | none=>simp [hκ] at hk
  | some p=>
   simp only [hκ,af,iV] at hk;split at hk
   ·cases hk
   ·cases hk;exact hb.2 _ _ hκ
 rcases hi with hi|hi
 ·have hk:=hc.fr.kept b hb.1 hi;refine ⟨⟨mU hb.1 hc.fr.size,fun r' q ho => ?_⟩,ac6 (fun _=>mU hb.1 hc.fr.size) hk.2⟩;unfold gN at ho;rw [hk.1] at ho;simp only at ho;rw [if_pos ⟨hi,hb.1⟩] at ho;exact clr r' q ho
 ·have hk:=hc.fb b _ hi;refine ⟨⟨hk.2.1 hb.1,fun r' q ho => ?_⟩,hk.2⟩;unfold gN at ho;rw [hk.1] at ho;simp only at ho;rw [if_neg (by omega),if_pos trivial] at ho;exact clr r' q ho
end
end Go.Fw
namespace Go.Fw
theorem Hw {f:aa Nat->aa Nat}:∀{cs:aa CT},h_ cs=true->h_ (CT.mapSs f cs)=true
 | [],_=>by simp [CT.mapSs,h_]
 | c::cs,h=>by
  simp only [h_,DV,aM] at h;have ih:=Hw (f:=f) (cs:=cs) (by simpa [h_] using h.2);simp only [CT.mapSs,h_,DV,aM];refine ⟨?_,by simpa [h_] using ih⟩;cases c with
  | d=>simp [CT.mapS]
  | sl m e=>
   cases m with
   | own p=>
    cases p with
    | none=>simp [CT.mapS]
    | some _=>have:=h.1;simp at this
   | _=>simp [CT.mapS]
section
variable {P:aR} {ac:Nat->Nat->aj} {κ0 κ:aP} {w0 w:aA} {N:Nat} {tg g:Nat->TT} {sv s:Nat->AV} {a:Act}
theorem XF (h:R ac κ0 w0 κ w N tg sv (gm a)) {κ':aP} {w':aA} {np d r j off n:Nat} {sk:Sk} {is:aa Nat} {c cr e:aa CT} {g0:Nat->aj} {ra row as':aa A} {Sall:aa Nat} {sg:aO}
  (hc:CallR κ (fV κ (some r) (yT (bX [] 0 sk is).1 ((bX [] 0 sk is).2+off) n j) Sall) κ' w w' np d (some r) (yT (bX [] 0 sk is).1 ((bX [] 0 sk is).2+off) n j) (gBp (bX [] 0 sk is).1 ((bX [] 0 sk is).2+off)) Sall sg)
  (hd:r≠d) (hj:j<np) (hr:(tg r).cts=some cr) (hm:CT.mens [r] cr=false) (he:iF true cr sk=some e) (pM:sv r = .v ra []) (hl:b_ ra sk is=some row) (hp:gq w (rg w (tg r) (gm a r)) sk is=some g0)
  (hn:n=c.length) (yR:off+n<=e.length) (hce:CT.unpins ((e.drop off).take n)=CT.unpins c) (gU:CT.noros c=true) (arK:aB κ' w' c (j,[]) 0 (fun k=>g0 (off+k)) as')
  {tg':Nat->TT} {sv':Nat->AV} {tm':Nat->aj} (sK:tg' r=tg r) (jJ:sv' r = .v (lJ ra sk is (splice row off as')) []) (qx:tm' r=gm a r) :
  TR ac (gN κ (fV κ (some r) (yT (bX [] 0 sk is).1 ((bX [] 0 sk is).2+off) n j) Sall) κ' np d w.heap.size (some r) (gBp (bX [] 0 sk is).1 ((bX [] 0 sk is).2+off))) w' tg' sv' tm' r (tg r):=by
 have fF:=h.root hr pM;have h1:=hc.npf;have hpl:=fun (get':Nat->aj) Al=>hc.place (get':=get') rfl hd (by omega) (by omega) fF hm he hl hp (av2 h hc) hn yR hce gU arK Al
 have hk:=h.tr r;cases hT:tg r with
 | dead=>rw [hT] at hr;simp [TT.cts] at hr
 | alias=>rw [hT] at hr;simp [TT.cts] at hr
 | ptr=>rw [hT] at hr;simp [TT.cts] at hr
 | tup=>rw [hT] at hr;simp [TT.cts] at hr
 | val ag cs=>
  rw [hT] at hk hr hpl;simp only [TT.cts,aK] at hr;subst hr;simp only [TR] at hk;obtain ⟨as,vs,g1,g2,g3,g4,g5⟩:=hk;simp only [TR,jJ,qx];refine ⟨_,vs,rfl,g2,g3,g4,hpl _ fun k _ => ?_⟩;simp [rg,g2]
 | box cs=>
  rw [hT] at hk hr hpl;simp only [TT.cts,aK] at hr;subst hr;simp only [TR] at hk;obtain ⟨as,b,g1,g2,g3,g4,g5,g6,g7⟩:=hk;obtain ⟨e1,e2⟩:=hc.old g4 (fun _=>Sl fun m hm fe=>by
   have:=fe.length_le
   rw [bq,J5,bB] at this
   omega) (fun bv=>absurd rfl bv) hd
  have lD:∀k,k<cs.length->cellD w' b k=cellD w b k:=fun k hk=>e2.cD (amd g5) (lN _) hk
  simp only [TR,jJ,qx];refine ⟨_,b,rfl,g2,e2.1 g3,by rw [e1];exact g4,e2.wrb g5,fun k j' c' e' iZ => ?_,hpl _ fun k hk => ?_⟩
  ·have:=(bn iZ).1;rw [lD k this];exact g6 k j' c' e' iZ
  ·rw [lD k hk];simp [rg,g2]
end
inductive SpC (N:Nat) (g:Nat->TT):Option (Nat × PM × Operand)->SK->Prop
 | no:SpC N g none .no
 | tk {j t:Nat} {ag:Bool} {cs cs':List CT} (ht:g t = .val ag cs') (a_:Cs cs' cs=true) (lV:t<N):SpC N g (some (j,.tk ag cs,.tmp t)) (.tk t)
 | mv {j t:Nat} {ag:Bool} {cs cs':List CT} (ht:g t = .val ag cs') (a_:Cs cs' cs=true) (hm:CT.mens [t] cs'=false) (lV:t<N):SpC N g (some (j,.mt ag cs,.tmp t)) (.mt t [] 0 cs.length t j)
 | ma {j t r off:Nat} {ag:Bool} {cs ca cr e:List CT} {sk:Sk} {S:List Nat} (ht:g t = .alias ag ca r sk off S) (hr:(g r).cts=some cr) (he:iF true cr sk=some e) (hl:ca.length=cs.length) (yR:off+cs.length<=e.length)
   (a_:Cs ((e.drop off).take cs.length) cs=true) (hm:CT.mens [r] cr=false) (sM:r<N):SpC N g (some (j,.mt ag cs,.tmp t)) (.mt r sk off cs.length t j)
 | mp {j t r:Nat} {cs cr:List CT} (hr:g r = .box cr) (a_:XE cr cs=true) (sM:r<N) (ht:t=r\/∃S,g t = .ptr r [] 0 S):SpC N g (some (j,.mp cs,.tmp t)) (.mp r cr cs j)
theorem adg {N:Nat} {g:Nat->TT} {sp:ah (Nat × PM × iN)} {k:SK} (h:spK N g sp=some k):SpC N g sp k:=by
 unfold spK at h;split at h
 ·cases h;exact .no
 ·split at h
  ·rename_i ag cs t ag' cs' hT;split at h
   ·rename_i hc;cases h;obtain ⟨rfl,h1,h2⟩:=hc;exact .tk hT h1 h2
   ·cases h
  ·cases h
 ·split at h
  ·rename_i ag' cs' hT;split at h
   ·rename_i hc;cases h;obtain ⟨rfl,h1,h2,h3⟩:=hc;exact .mv hT h1 h2 h3
   ·cases h
  ·rename_i ag' ca r sk off S0 hT;split at h
   ·rename_i cr hr;split at h
    ·rename_i e he;split at h
     ·rename_i hc;cases h;obtain ⟨rfl,h1,h2,h3,h4,h5⟩:=hc;exact .ma hT hr he h1 h2 h3 h4 h5
     ·cases h
    ·cases h
   ·cases h
  ·cases h
 ·split at h
  ·rename_i r S0 hT;split at h
   ·rename_i cr hr;split at h
    ·rename_i hc;cases h;exact .mp hr hc.1 hc.2 (.inr ⟨_,hT⟩)
    ·cases h
   ·cases h
  ·rename_i cr hT;split at h
   ·rename_i hc;cases h;exact .mp hT hc.1 hc.2 (.inl rfl)
   ·cases h
  ·cases h
 ·cases h
theorem aoY {P:aR} {sigs:FuncId->ah aO} {N:Nat} {g:Nat->TT} {o:bS} {S:Stp} (h:abY P sigs N g o=some S):d_ P N o g S:=by
 unfold abY at h;split at h;case h_2=>cases h
 case h_1 d c hd ho=>
 obtain ⟨callee,args,ats⟩:=c;simp only at h;split at h;case h_2=>cases h
 case h_1 _ K=>
 split at h;case h_2=>cases h
 case h_1 fn sg hf hsg=>
 split at h;case h_2=>cases h
 case h_1 Y hY=>
 split at h;case h_2=>cases h
 case h_1 k hk=>
 split at h;case isFalse=>cases h
 case isTrue hc=>
 obtain ⟨hdN,arL,arM,oC,kW,jy⟩:=hc;cases h;intro ac κ0 κ w0 w tg sv s a v next Q hN hR hL hv bT;simp only [Eff.rel] at hv;obtain ⟨ass,res,outs,FI,DK,jD⟩:=hv;have pO:=adf (a:=a) (w:=w) ho hf arL arM;have sP:=adg hk;generalize Cr:Y.sp=sp at sP;cases sP with
 | no=>
  have WW:=Cr;obtain ⟨k1,k2,k3,_,_⟩:=vK (r0:=none) (gG:=fun _=>none) (Sall:=Y.S) hR hL (fun r hr=>by cases hr) hY FI (fun r hr=>hr) (fun j pm x f rd as hj=>by rw [WW] at hj;cases hj);simp only [SK.post,aK] at jD;subst jD;refine zB (d:=d) (gB:=fun _=>none) pO DK hR.col k1 k2 jy (fun q p bv=>absurd rfl bv) (fun k pm x as h1 h2 h3=>by simpa using k3 k pm x as h1 h2 h3) fun vv κ' w' qB lG _ => ?_
  have jA:=I4 hR qB hdN (fun r hr=>by cases hr) (v:=vv) (tg':=aC (fun t=>(tg t).kill [d] []) [(d,eZ Y.S sg.res)]) (sv':=aC sv [(d,jB res sg.res)])
   (fun r hr _=>by simp [aC,hr]) (fun r hr _=>by simp [aC,hr]) (by
    have:=qB.tr (ac:=ac) kW lG (aC (fun t=>(tg t).kill [d] []) [(d,eZ Y.S sg.res)]) (aC sv [(d,jB res sg.res)]) (upd (gm a) d vv) (by simp [aC]) (by simp [upd])
    simpa [aC] using this) (fun r hr=>by cases hr)
  refine bT vv w' _ _ _ (by rw [hd,qf (a:=a) (by rw [hN];exact hdN)];exact jA) (fun t=>rfl) (fun t=>rfl)
 | @tk j t ag cs cs' hT a_ lV=>
  obtain ⟨e1,e2⟩:=hL.at hT (by simp);have FK:∀r,some t=some r->r∉Y.S:=fun r hr=>(oC r (by simpa [SK.r0] using hr)).1
  obtain ⟨k1,k2,k3,k4,_⟩:=vK (r0:=some t) (gG:=yT [] 0 cs.length j) (Sall:=Y.S) hR hL FK hY FI (fun r hr=>hr) (fun j' pm x f rd as hj kH zk=>by
   rw [Cr] at hj
   simp only [aK,bU] at hj
   obtain ⟨rfl,rfl,rfl⟩:=hj
   simp only [tF,aK,bU] at kH
   obtain ⟨rfl,_⟩:=kH
   obtain ⟨is,hs⟩:=df zk
   exact ahb hR e1 a_ (by rw [e2,hs]) (.inl rfl))
  obtain ⟨_,zl,hmj,_,_⟩:=k4 _ _ _ Cr;simp only [SK.post,aK] at jD;subst jD;refine zB (d:=d) (gB:=fun _=>none) pO DK hR.col k1 k2 jy (fun q p _ hp => ?_) (fun k pm x as h1 h2 h3=>by simpa using k3 k pm x as h1 h2 h3) fun vv κ' w' qB lG _ => ?_
  ·have:p.1=j:=by
    unfold yT at hp;repeat' split at hp
    all_goals first
     | cases hp;rfl
     | cases hp
   exact ⟨_,by rw [this];simpa using zl,hmj⟩
  ·have fZ:t≠d:=(oC t rfl).2;have jA:=I4 hR qB hdN (fun r hr=>by cases hr;exact ⟨lV,fZ⟩) (v:=vv) (tg':=aC (fun u=>(tg u).kill [d,t] [t]) [(d,eZ Y.S sg.res),(t,.dead)]) (sv':=aC sv [(d,jB res sg.res)])
    (fun r hr bv=>by
     have BR:r≠t:=fun he=>bv (by rw [he])
     simp only [aC,if_neg hr,if_neg BR];rfl) (fun r hr _=>by simp [aC,hr]) (by
     have:=qB.tr (ac:=ac) kW lG (aC (fun u=>(tg u).kill [d,t] [t]) [(d,eZ Y.S sg.res),(t,.dead)]) (aC sv [(d,jB res sg.res)]) (upd (gm a) d vv) (by simp [aC]) (by simp [upd])
     simpa [aC] using this) (fun r hr=>by cases hr;simp [aC,fZ,TR])
   exact bT vv w' _ _ _ (by rw [hd,qf (a:=a) (by rw [hN];exact hdN)];exact jA) (fun t=>rfl) (fun t=>rfl)
 | @mv j t ag cs cs' hT a_ hm lV=>
  obtain ⟨e1,e2⟩:=hL.at hT (by simp);have FK:∀r,some t=some r->r∉Y.S:=fun r hr=>(oC r (by simpa [SK.r0] using hr)).1
  simp only [SK.post] at jD;split at jD;case h_2=>cases jD
  case h_1 is ra oo pK BN hoo=>
  split at jD;case h_2=>cases jD
  case h_1 row cZ=>
  cases jD;have h1:=hR.tr t;rw [e1] at h1;simp only [TR] at h1;obtain ⟨as0,vs,g1,g2,g3,g4,g5⟩:=h1;obtain ⟨is2,Hm⟩:=df BN;rw [e2,Hm] at g1;cases g1;have axs:is=[]:=by simp only [aoX,Hm,aK] at pK;exact pK.symm
  subst axs;have pM:sv t = .v ra []:=by rw [e2,Hm]
  obtain ⟨k1,k2,k3,k4,_⟩:=vK (r0:=some t) (gG:=yT (bX [] 0 [] []).1 ((bX [] 0 [] []).2+0) cs.length j) (Sall:=Y.S) hR hL FK hY FI (fun r hr=>hr) (fun j' pm x f rd as hj kH zk=>by
   rw [Cr] at hj
   simp only [aK,bU] at hj
   obtain ⟨rfl,rfl,rfl⟩:=hj
   simp only [tF,aK,bU] at kH
   obtain ⟨rfl,_⟩:=kH
   obtain ⟨is,hs⟩:=df zk
   exact ahb hR e1 a_ (by rw [e2,hs]) (.inr rfl))
  obtain ⟨_,zl,hmj,JY,_⟩:=k4 _ _ _ Cr;refine zB (d:=d) (gB:=gBp (bX [] 0 [] []).1 ((bX [] 0 [] []).2+0)) pO DK hR.col k1 k2 jy (fun q p _ hp => ?_) (fun k pm x as h1 h2 h3=>by simpa using k3 k pm x as h1 h2 h3) fun vv κ' w' qB lG ML => ?_
  ·have:p.1=j:=by
    unfold yT at hp;repeat' split at hp
    all_goals first
     | cases hp;rfl
     | cases hp
   exact ⟨_,by rw [this];simpa using zl,hmj⟩
  ·have fZ:t≠d:=(oC t rfl).2;have akm:j<sg.ps.length:=by have:=(bn zl).1;omega
   have pz:=ML j (.mt ag cs) (gm a t) oo (by simpa using zl) (by
    rw [kz];simp only [DY] at JY;rw [JY];rfl) hoo
   obtain ⟨vs',o1,o2,o3⟩:=pz;rw [g2] at o1;cases o1;have fF:=XF (c:=cs) (e:=cs') (g0:=rg w (tg t) (gm a t)) (as':=oo) (row:=row) (off:=0) hR qB fZ akm (by rw [e1];rfl) hm (by simp [iF]) pM cZ (by simp [gq]) rfl (by rw [I1 a_];omega) (by
    rw [FY,<-I1 a_,u7];exact (uC a_).1) (uC a_).2.2 (by
    refine mD (fun i _ _ => ?_) o3
    simp [rg,e1,g2]) (tg':=aC (fun u=>(tg u).kill [d,t] [t]) [(d,eZ Y.S sg.res),(t,g t)]) (sv':=aC sv [(d,jB res sg.res),(t,.v (lJ ra [] [] (splice row 0 oo)) [])]) (tm':=upd (gm a) d vv)
    (by simp [aC,fZ,e1,hT]) (by simp [aC,fZ]) (by simp [upd,fZ])
   have jA:=I4 hR qB hdN (fun r hr=>by cases hr;exact ⟨lV,fZ⟩) (v:=vv) (tg':=aC (fun u=>(tg u).kill [d,t] [t]) [(d,eZ Y.S sg.res),(t,g t)]) (sv':=aC sv [(d,jB res sg.res),(t,.v (lJ ra [] [] (splice row 0 oo)) [])])
    (fun r hr bv=>by
     have BR:r≠t:=fun he=>bv (by rw [he])
     simp only [aC,if_neg hr,if_neg BR];rfl) (fun r hr bv=>by
     have BR:r≠t:=fun he=>bv (by rw [he])
     simp only [aC,if_neg hr,if_neg BR]) (by
     have:=qB.tr (ac:=ac) kW lG (aC (fun u=>(tg u).kill [d,t] [t]) [(d,eZ Y.S sg.res),(t,g t)]) (aC sv [(d,jB res sg.res),(t,.v (lJ ra [] [] (splice row 0 oo)) [])]) (upd (gm a) d vv) (by simp [aC]) (by simp [upd])
     simpa [aC] using this) (fun r hr=>by
     cases hr
     have:aC (fun u=>(tg u).kill [d,t] [t]) [(d,eZ Y.S sg.res),(t,g t)] t=tg t:=by simp [aC,fZ,e1,hT]
     rw [this];exact fF)
   have BS:=agv (tg2:=aC (fun u=>(tg u).killS t [d,t] [t]) [(d,eZ Y.S sg.res),(t,g t)]) hR jA (r:=t) (mods:=[d,t]) (M:=[t]) (X:=[d,t]) (by simp) (fun u hu=>by
    simp only [aY,nD,or_false,not_or] at hu
    simp [aC,upd,hu.1,hu.2]) (fun u hu=>by
    simp only [aY,nD,or_false] at hu
    rcases hu with rfl|rfl
    ·simp [aC]
    ·simp [aC,fZ]) (fun hb=>by obtain ⟨cb,hb⟩:=hb;rw [e1] at hb;cases hb)
   exact bT vv w' _ _ _ (by rw [hd,qf (a:=a) (by rw [hN];exact hdN)];exact BS) (fun t=>rfl) (fun t=>rfl)
 | @ma j t r off ag cs ca cr e sk S0 hT hr he hl yR a_ hm sM=>
  obtain ⟨e1,e2⟩:=hL.at hT (by simp);obtain ⟨jF,er2⟩:=Bd hL hr;have egr:tg r=g r:=by
   have bv:g r≠.dead:=fun hg=>by rw [hg] at hr;simp [TT.cts] at hr
   exact (hL.at rfl bv).1
  have FK:∀u,some r=some u->u∉Y.S:=fun u hu=>(oC u (by simpa [SK.r0] using hu)).1
  simp only [SK.post] at jD;split at jD;case h_2=>cases jD
  case h_1 is ra oo pK BN hoo=>
  split at jD;case h_2=>cases jD
  case h_1 row cZ=>
  cases jD;have h1:=hR.tr t;rw [e1] at h1;simp only [TR] at h1;obtain ⟨as0,is0,vs,gf,ra0,row0,g1,g2,g3,gl,g4,g5,g6,g7,g8,g9,g10,g11,g12⟩:=h1;rw [e2] at g1;have axs:is0=is:=by simp only [aoX,g1,aK] at pK;exact pK
  subst axs;have pM:sv r = .v ra []:=by
   obtain ⟨is2,Hm⟩:=df BN;rw [er2,Hm] at g10;rw [er2,Hm];cases g10;rfl
  have aGu:ra0=ra:=by rw [pM] at g10;cases g10;rfl
  subst aGu;obtain ⟨k1,k2,k3,k4,_⟩:=vK (r0:=some r) (gG:=yT (bX [] 0 sk is0).1 ((bX [] 0 sk is0).2+off) cs.length j) (Sall:=Y.S) hR hL FK hY FI (fun r hr=>hr) (fun j' pm x f rd as hj kH zk=>by
   rw [Cr] at hj
   simp only [aK,bU] at hj
   obtain ⟨rfl,rfl,rfl⟩:=hj
   simp only [tF,aK,bU] at kH
   obtain ⟨rfl,_⟩:=kH
   obtain ⟨is,hs⟩:=df zk
   rw [g1] at hs
   cases hs
   exact azP hR e1 jF he hl yR a_ (by rw [e2,g1]))
  obtain ⟨_,zl,hmj,JY,_⟩:=k4 _ _ _ Cr;refine zB (d:=d) (gB:=gBp (bX [] 0 sk is0).1 ((bX [] 0 sk is0).2+off)) pO DK hR.col k1 k2 jy (fun q p _ hp => ?_) (fun k pm x as h1 h2 h3=>by simpa using k3 k pm x as h1 h2 h3) fun vv κ' w' qB lG ML => ?_
  ·have:p.1=j:=by
    unfold yT at hp;repeat' split at hp
    all_goals first
     | cases hp;rfl
     | cases hp
   exact ⟨_,by rw [this];simpa using zl,hmj⟩
  ·have fZ:r≠d:=(oC r rfl).2;have akm:j<sg.ps.length:=by have:=(bn zl).1;omega
   have pz:=ML j (.mt ag cs) (gm a t) oo (by simpa using zl) (by
    rw [kz];simp only [DY] at JY;rw [JY];rfl) hoo
   obtain ⟨vs',o1,o2,o3⟩:=pz;rw [g2] at o1;cases o1;have fF:=XF (c:=cs) (e:=e) (g0:=gf) (as':=oo) (row:=row) (off:=off) hR qB fZ akm jF hm he pM cZ g5 rfl yR (uC a_).1 (uC a_).2.2 (by
    refine mD (fun i _ hi => ?_) o3
    exact (g9 i (by omega)).1) (tg':=aC (fun u=>(tg u).kill [d,r] [r]) [(d,eZ Y.S sg.res),(r,g r)]) (sv':=aC sv [(d,jB res sg.res),(r,.v (lJ ra0 sk is0 (splice row off oo)) [])]) (tm':=upd (gm a) d vv)
    (by simp [aC,fZ,egr]) (by simp [aC,fZ]) (by simp [upd,fZ])
   have jA:=I4 hR qB hdN (fun u hu=>by cases hu;exact ⟨sM,fZ⟩) (v:=vv) (tg':=aC (fun u=>(tg u).kill [d,r] [r]) [(d,eZ Y.S sg.res),(r,g r)]) (sv':=aC sv [(d,jB res sg.res),(r,.v (lJ ra0 sk is0 (splice row off oo)) [])])
    (fun u hu bv=>by
     have BR:u≠r:=fun he=>bv (by rw [he])
     simp only [aC,if_neg hu,if_neg BR];rfl) (fun u hu bv=>by
     have BR:u≠r:=fun he=>bv (by rw [he])
     simp only [aC,if_neg hu,if_neg BR]) (by
     have:=qB.tr (ac:=ac) kW lG (aC (fun u=>(tg u).kill [d,r] [r]) [(d,eZ Y.S sg.res),(r,g r)]) (aC sv [(d,jB res sg.res),(r,.v (lJ ra0 sk is0 (splice row off oo)) [])]) (upd (gm a) d vv) (by simp [aC]) (by simp [upd])
     simpa [aC] using this) (fun u hu=>by
     cases hu
     have:aC (fun u=>(tg u).kill [d,r] [r]) [(d,eZ Y.S sg.res),(r,g r)] r=tg r:=by simp [aC,fZ,egr]
     rw [this];exact fF)
   have BS:=agv (tg2:=aC (fun u=>(tg u).killS r [d,r] [r]) [(d,eZ Y.S sg.res),(r,g r)]) hR jA (r:=r) (mods:=[d,r]) (M:=[r]) (X:=[d,r]) (by simp) (fun u hu=>by
    simp only [aY,nD,or_false,not_or] at hu
    simp [aC,upd,hu.1,hu.2]) (fun u hu=>by
    simp only [aY,nD,or_false] at hu
    rcases hu with rfl|rfl
    ·simp [aC]
    ·simp [aC,fZ]) (fun hb=>by
    obtain ⟨cb,hb⟩:=hb
    exact ⟨⟨cb,by simp [aC,fZ,<-egr,hb]⟩,by simp [upd,fZ]⟩)
   exact bT vv w' _ _ _ (by rw [hd,qf (a:=a) (by rw [hN];exact hdN)];exact BS) (fun t=>rfl) (fun t=>rfl)
 | @mp j t r cs cr hr a_ sM ht=>
  obtain ⟨e1,e2⟩:=hL.at hr (by simp);have FK:∀u,some r=some u->u∉Y.S++CT.roSs cr:=fun u hu=>(oC u (by simpa [SK.r0] using hu)).1
  have MM:=a_;simp only [XE,aM] at MM;have rE:=CT.beqs_eq MM.1.1.1;have axt:CT.srcss (CT.unpins cs)=[]:=List.isEmpty_iff.1 MM.1.2;simp only [SK.post] at jD;split at jD;case h_2=>cases jD
  case h_1 oo hoo=>
  cases jD;have h1:=hR.tr r;rw [e1] at h1;simp only [TR] at h1;obtain ⟨ra,b,g1,g2,g3,g4,g5,g6,g7⟩:=h1;have CO:gm a t=gm a r:=by
   rcases ht with rfl|⟨S0,hT⟩
   ·rfl
   ·obtain ⟨t1,t2⟩:=hL.at hT (by simp);have h1:=hR.tr t;rw [t1] at h1;simp only [TR] at h1;obtain ⟨is,B,O,u1,u2,_,_,u5⟩:=h1;rw [e1] at u2;simp only [iH,rb,g2,dx] at u2;cases is with
    | nil=>
     simp only [wk,aK,bU] at u2;rw [u5,g2,<-u2.1,<-u2.2]
    | cons=>simp [wk] at u2
  obtain ⟨k1,k2,k3,k4,_⟩:=vK (r0:=some r) (gG:=fun q=>some (j,q)) (Sall:=Y.S++CT.roSs cr) hR hL FK hY FI (fun r hr=>jc _ hr) (fun j' pm x f rd as hj kH zk=>by
   rw [Cr] at hj
   simp only [aK,bU] at hj
   obtain ⟨rfl,rfl,rfl⟩:=hj
   have gY:∃is,s r = .v as is:=by
    rcases ht with rfl|⟨S0,hT⟩
    ·simp only [tF,hr,aK,bU] at kH
     obtain ⟨rfl,_⟩:=kH
     exact df zk
    ·simp only [tF,hT,aK,bU] at kH
     obtain ⟨rfl,_⟩:=kH
     exact df zk
   obtain ⟨is,hs⟩:=gY
   exact aBb hR e1 a_ (by rw [e2,hs]) (FK r rfl) (fun m hm=>jN _ hm) CO)
  obtain ⟨_,zl,hmj,JY,_⟩:=k4 _ _ _ Cr;refine zB (d:=d) (gB:=fun q=>some q) pO DK hR.col k1 k2 jy (fun q p _ hp => ?_) (fun k pm x as h1 h2 h3=>by simpa using k3 k pm x as h1 h2 h3) fun vv κ' w' qB lG ML => ?_
  ·cases hp;exact ⟨_,by simpa using zl,hmj⟩
  ·have fZ:r≠d:=(oC r rfl).2;have akm:j<sg.ps.length:=by have:=(bn zl).1;omega
   have pz:=ML j (.mp cs) (gm a t) oo (by simpa using zl) (by
    rw [kz];simp only [DY] at JY;rw [JY];rfl) hoo
   obtain ⟨b',o1,o2,o3,o4,o5⟩:=pz;have hko:gN κ (fV κ (some r) (fun q=>some (j,q)) (Y.S++CT.roSs cr)) κ' sg.ps.length d w.heap.size (some r) (fun q=>some q) b'=some (r,[]):=by
    unfold gN;rw [o3];simp only;rw [if_neg (by omega),if_neg (by omega)]
   have fF:TR ac (gN κ (fV κ (some r) (fun q=>some (j,q)) (Y.S++CT.roSs cr)) κ' sg.ps.length d w.heap.size (some r) (fun q=>some q)) w' (aC (fun u=>(tg u).kill [d,r] [r]) [(d,eZ (Y.S++CT.roSs cr) sg.res),(r,.box (CT.mapSs (fun _=>Y.S++CT.roSs cr) (CT.unpins cs)))])
     (aC sv [(d,jB res sg.res),(r,.v oo [])]) (upd (gm a) d vv) r (.box (CT.mapSs (fun _=>Y.S++CT.roSs cr) (CT.unpins cs))):=by
    simp only [TR];refine ⟨oo,b',by simp [aC,fZ],by rw [upd_ne _ _ _ fZ,<-CO,o1],o2,hko,by rw [gM,iY];exact o4,gK (Hw MM.2),?_⟩;refine gH (f:=fun _=>Y.S++CT.roSs cr) (P:=fun S=>∀r,r∈S->∃pm,sg.ps[r]?=some pm/\pm.mut=false) (κ:=κ') (w:=w') (κ':=gN κ (fV κ (some r) (fun q=>some (j,q)) (Y.S++CT.roSs cr)) κ' sg.ps.length d w.heap.size (some r) (fun q=>some q)) (w':=w') (p':=(r,[])) (j':=0) (get':=cellD w' b') (fun S hS b hb=>⟨qB.res_ro hS hb,Same.refl w' b⟩) (Db.2 (by rw [axt];simp)) (fun i hi b2 q hb=>⟨?_,Same.refl w' b2⟩) (fun i hi=>rfl) (gI.2 o5)
    ·unfold gN;rw [hb];simp only;rw [if_neg (by omega),if_neg (by omega)]
   have jA:=I4 hR qB hdN (fun u hu=>by cases hu;exact ⟨sM,fZ⟩) (v:=vv) (tg':=aC (fun u=>(tg u).kill [d,r] [r]) [(d,eZ (Y.S++CT.roSs cr) sg.res),(r,.box (CT.mapSs (fun _=>Y.S++CT.roSs cr) (CT.unpins cs)))]) (sv':=aC sv [(d,jB res sg.res),(r,.v oo [])])
    (fun u hu bv=>by
     have BR:u≠r:=fun he=>bv (by rw [he])
     simp only [aC,if_neg hu,if_neg BR];rfl) (fun u hu bv=>by
     have BR:u≠r:=fun he=>bv (by rw [he])
     simp only [aC,if_neg hu,if_neg BR]) (by
     have:=qB.tr (ac:=ac) kW lG (aC (fun u=>(tg u).kill [d,r] [r]) [(d,eZ (Y.S++CT.roSs cr) sg.res),(r,.box (CT.mapSs (fun _=>Y.S++CT.roSs cr) (CT.unpins cs)))]) (aC sv [(d,jB res sg.res),(r,.v oo [])]) (upd (gm a) d vv) (by simp [aC]) (by simp [upd])
     simpa [aC] using this) (fun u hu=>by
     cases hu
     have:aC (fun u=>(tg u).kill [d,r] [r]) [(d,eZ (Y.S++CT.roSs cr) sg.res),(r,.box (CT.mapSs (fun _=>Y.S++CT.roSs cr) (CT.unpins cs)))] r = .box (CT.mapSs (fun _=>Y.S++CT.roSs cr) (CT.unpins cs)):=by simp [aC,fZ]
     rw [this];exact fF)
   have BS:=agv (tg2:=aC (fun u=>(tg u).killS r [d,r] [r]) [(d,eZ (Y.S++CT.roSs cr) sg.res),(r,.box (CT.mapSs (fun _=>Y.S++CT.roSs cr) (CT.unpins cs)))]) hR jA (r:=r) (mods:=[d,r]) (M:=[r]) (X:=[d,r]) (by simp) (fun u hu=>by
    simp only [aY,nD,or_false,not_or] at hu
    simp [aC,upd,hu.1,hu.2]) (fun u hu=>by
    simp only [aY,nD,or_false] at hu
    rcases hu with rfl|rfl
    ·simp [aC]
    ·simp [aC,fZ]) (fun hb=>⟨⟨_,by simp [aC,fZ];rfl⟩,by simp [upd,fZ]⟩)
   exact bT vv w' _ _ _ (by rw [hd,qf (a:=a) (by rw [hN];exact hdN)];exact BS) (fun t=>rfl) (fun t=>rfl)
end Go.Fw
