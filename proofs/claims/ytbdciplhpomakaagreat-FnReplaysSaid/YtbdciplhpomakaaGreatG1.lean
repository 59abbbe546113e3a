/- A way of showing what a function computes: the blocks of the heap are owned by the places that lW them; this is a part of it. No conditions. -/
import Derived.Test.YtbdciplhpomakaaGreatG0
import Derived.Laws.Entries
import Derived.Laws.BitsLemmas
set_option linter.unusedSectionVars false
namespace Go.Fw
inductive PM where
 | rd (ag:Bool) (cs:List CT)
 | tk (ag:Bool) (cs:List CT)
 | mt (ag:Bool) (cs:List CT)
 | mp (cs:List CT)
inductive RS where
 | u
 | one (ag:Bool) (cs:List CT)
 | tup (ws:List (Bool × Nat)) (cs:List CT)
 | bx (cs:List CT)
structure aL where
 ps:List PM
 res:RS
def pI (κ:aQ) (w:aA) (i:Nat) (x:aj) (as:aa A):PM->Prop
 | .rd ag cs=>∃vs,cellsOf ag x=some vs/\vs.length=cs.length/\aB κ w (CT.roizes [i] cs) (i,[]) 0 (fun k=>vs.getD k undef) as
 | .tk ag cs=>∃vs,cellsOf ag x=some vs/\vs.length=cs.length/\aB κ w cs (i,[]) 0 (fun k=>vs.getD k undef) as
 | .mt ag cs=>∃vs,cellsOf ag x=some vs/\vs.length=cs.length/\aB κ w cs (i,[]) 0 (fun k=>vs.getD k undef) as
 | .mp cs=>∃b,x = .pointer (some ⟨b,0,none⟩)/\b<w.heap.size/\κ b=some (i,[])/\Wrb w b 0 cs.length/\aB κ w cs (i,[]) 0 (cellD w b) as
def aoB (κ:aQ) (w:aA) (i:Nat) (x:aj) (as:aa A):PM->Prop
 | .mt ag cs=>∃vs,cellsOf ag x=some vs/\vs.length=cs.length/\aB κ w cs (i,[]) 0 (fun k=>vs.getD k undef) as
 | .mp cs=>∃b,x = .pointer (some ⟨b,0,none⟩)/\b<w.heap.size/\κ b=some (i,[])/\Wrb w b 0 cs.length/\aB κ w cs (i,[]) 0 (cellD w b) as
 | _=>True
def aoC (κ:aQ) (w:aA) (n:Nat) (x:aj) (as:aa A):RS->Prop
 | .u=>x = .tuple #[]
 | .one ag cs=>∃vs,cellsOf ag x=some vs/\vs.length=cs.length/\aB κ w cs (n,[]) 0 (fun k=>vs.getD k undef) as
 | .tup ws cs=>∃xs vs,x = .tuple xs/\uJ ws xs.toList=some vs/\vs.length=cs.length/\aB κ w cs (n,[]) 0 (fun k=>vs.getD k undef) as
 | .bx cs=>∃b,x = .pointer (some ⟨b,0,none⟩)/\b<w.heap.size/\κ b=some (n,[])/\Wrb w b 0 cs.length/\aB κ w cs (n,[]) 0 (cellD w b) as
def PM.mut:PM->Bool
 | .rd _ _=>false
 | _=>true
def Mine (sg:aL) (κ:aQ):Prop:=∀b r q,κ b=some (r,q)->r=FB\/∃pm,sg.ps[r]?=some pm/\pm.mut=true
structure Post (sg:aL) (κ:aQ) (w:World) (xs:List Value) (res:List A) (outs:List (List A)) (κ':aQ) (w':World) (v:Value):Prop where
 col:∀b,w'.heap.size<=b->κ' b=none
 fr:Fr κ w κ' w'
 fb:∀b q,κ b=some (FB,q)->κ' b=some (FB,q)/\Same w w' b
 mine:∀b r q,κ' b=some (r,q)->(r=FB/\∃q',κ b=some (FB,q'))\/r=sg.ps.length\/∃pm,sg.ps[r]?=some pm/\pm.mut=true
 res:aoC κ' w' sg.ps.length v res sg.res
 outs:∀i pm x as,sg.ps[i]?=some pm->xs[i]?=some x->outs[i]?=some as->aoB κ' w' i x as pm
def Good (P:aS) (K:FuncId) (sg:aL) (args:aa (aa A)) (res:aa A) (outs:aa (aa A)):Prop:=
 ∀(κ:aQ) (w:aA) (xs:aa aj),(∀b,w.heap.size<=b->κ b=none)->Mine sg κ->xs.length=sg.ps.length->args.length=sg.ps.length ->
  (∀i pm x as,sg.ps[i]?=some pm->xs[i]?=some x->args[i]?=some as->pI κ w i x as pm) ->
  Calls P K xs.toArray w fun e w'=>∃v κ',e = .returned v/\Post sg κ w xs res outs κ' w' v
def fA (κc:aQ) (r0:ah Nat) (gG:aa Nat->ah Pl) (Sall:aa Nat):aQ:=fun b=>
 match κc b with
 | none=>none
 | some (r,q)=>if some r=r0 then (match gG q with|some p=>some p|none=>some (FB,[0])) else if r∈Sall/\q≠[] then none else some (FB,[0])
def gu (κc κi κ':aQ) (np d sz:Nat) (r0:ah Nat) (gB:aa Nat->ah (aa Nat)):aQ:=fun b=>
 match κ' b with
 | some (r,q)=>if r=np then some (d,q) else if r=FB then (κc b).bind (iN d) else match r0,gB q with
  | some r',some q'=>some (r',q')
  | _,_=>none
 | none=>if κi b=none/\b<sz then (κc b).bind (iN d) else none
section
variable {ac:Nat->Nat->aj} {κ0 κ κi κ':aQ} {w0 w w':aA} {N:Nat} {tg tg':Nat->TT} {sv sv':Nat->AV} {tm tm':Nat->aj}
theorem acX {w w':aA} {b:Nat} (hs:b<w.heap.size->b<w'.heap.size) (h:w'.heap[b]?=w.heap[b]?):Same w w' b:=by
 refine ⟨hs,fun o x hx => ?_⟩;simp only [World.cell?,World.frozen?,h] at hx ⊢;exact ⟨hx,trivial⟩
theorem az5 (h:R ac κ0 w0 κ w N tg sv tm) {d np:Nat} (hd:d<N) {r0:ah Nat} (oq:∀r,r0=some r->r<N) {gG:aa Nat->ah Pl} {gB:aa Nat->ah (aa Nat)} {Sall:aa Nat}
  (G6:κi=fA κ r0 gG Sall) (ji:np≠FB) (kz:∀b,w'.heap.size<=b->κ' b=none) (hfr:Fr κi w κ' w') (qg:∀b q,κi b=some (FB,q)->κ' b=some (FB,q)/\Same w w' b)
  (aq9:∀b q,κ' b=some (FB,q)->∃q',κi b=some (FB,q'))
  (sF:∀r,r≠d->some r≠r0->tg' r=(tg r).kill (d::r0.toList) r0.toList) (jB:∀r,r≠d->some r≠r0->sv' r=sv r) (qf:∀r,r≠d->some r≠r0->tm' r=tm r)
  (hTd:TR ac (gu κ κi κ' np d w.heap.size r0 gB) w' tg' sv' tm' d (tg' d)) (hT0:∀r,r0=some r->r≠d->TR ac (gu κ κi κ' np d w.heap.size r0 gB) w' tg' sv' tm' r (tg' r)) :
  R ac κ0 w0 (gu κ κi κ' np d w.heap.size r0 gB) w' N tg' sv' tm':=by
 have dF:=hfr.size
 -- what is not aGL on stays
 have stay:∀b,b<w.heap.size->(∀r q,κ b=some (r,q)->some r≠r0)->gu κ κi κ' np d w.heap.size r0 gB b=(κ b).bind (iN d)/\Same w w' b:=by
  intro b hb aX;have hi:κi b=none\/κi b=some (FB,[0]):=by
   rw [G6];unfold fA;cases hk:κ b with
   | none=>exact .inl rfl
   | some p=>
    obtain ⟨r,q⟩:=p;simp only;rw [if_neg (aX r q hk)];split
    ·exact .inl rfl
    ·exact .inr rfl
  rcases hi with hi|hi
  ·have:=hfr.kept b hb hi;refine ⟨?_,acX (fun _=>pz hb dF) this.2⟩;unfold gu;rw [this.1];simp only;rw [if_pos ⟨hi,hb⟩]
  ·have:=qg b _ hi;refine ⟨?_,this.2⟩;unfold gu;rw [this.1];simp only;rw [if_neg (mH ji),if_pos trivial]
 have lt:∀b p,κ b=some p->b<w.heap.size:=fun b p hb=>by
  apply sM;intro cZ;rw [h.col b cZ] at hb;cases hb
 refine uf (mods:=d::r0.toList) (M:=r0.toList) h ?_ (fun S hS b hb => ?_) (fun b r q hr hb => ?_) (fun r hr => ?_) (fun r hr => ?_) (fun r hr => ?_) (fun t ht => ?_) (fun t ht => ?_) (fun b hb => ?_) ?_
 ·have:=h.nle;simp only [aY,Ke,not_or];refine ⟨by omega,fun hf => ?_⟩;have:=oq FB hf;omega
 ·have h1:=stay b hb.1 (fun r q hk he=>hS r (by simp [<-he]) (hb.2 r q hk).1);refine ⟨⟨pz hb.1 dF,fun r q hk => ?_⟩,h1.2⟩;rw [h1.1] at hk;cases hκ:κ b with
  | none=>simp [hκ] at hk
  | some p=>
   simp only [hκ,af,iN] at hk;split at hk
   ·cases hk
   ·cases hk;exact hb.2 r q hκ
 ·simp only [aY,Ke,not_or] at hr;have h1:=stay b (lt b _ hb) (fun r' q' hk he=>by rw [hb] at hk;cases hk;exact hr.2 he.symm);refine ⟨?_,h1.2⟩;rw [h1.1,hb];simp [iN,hr.1]
 ·simp only [aY,Ke,not_or] at hr;exact .inl (sF r hr.1 fun he=>hr.2 he.symm)
 ·simp only [aY,Ke,not_or] at hr;exact jB r hr.1 fun he=>hr.2 he.symm
 ·simp only [aY,Ke,not_or] at hr;exact qf r hr.1 fun he=>hr.2 he.symm
 ·by_cases fD:t=d
  ·subst fD;exact hTd
  ·simp only [aY,fD,Ke,false_or] at ht;exact hT0 t ht fD
 ·have h1:t≠d:=by omega
  have h2:some t≠r0:=fun he=>by have:=oq t he.symm;omega
  rw [sF t h1 h2,h.out t ht];rfl
 ·unfold gu;rw [kz b hb];simp only;rw [if_neg (by omega)]
 ·refine ⟨kg h.fr.size dF,fun b hb h0 => ?_,by rw [hfr.os];exact h.fr.os,by rw [hfr.out];exact h.fr.out,by rw [hfr.tape];exact h.fr.tape⟩;have hk:=h.fr.kept b hb h0;have hbw:=pz hb h.fr.size;have h1:=stay b hbw (fun r q hkb=>by rw [hk.1] at hkb;cases hkb);refine ⟨by rw [h1.1,hk.1];rfl,?_⟩;have hi:κi b=none:=by rw [G6];unfold fA;rw [hk.1]
  rw [(hfr.kept b hbw hi).2];exact hk.2
end
end Go.Fw
namespace Go.Fw
inductive DF where
 | bin (op:BinOp)
 | beq (ne:Bool)
 | not
 | neg
 | conv (k:IntKind)
 | min
 | max
 | sidx
 | slen
 | ssl (lo hi:Bool)
 | pick
 deriving DecidableEq
def agC (op:BinOp) (a b:ByteArray):ah Bool:=
 let eq:=a.toList == b.toList
 let lt:=Op.bytesLess a.toList b.toList
 match op with
 | .eql=>some eq
 | .neq=>some !eq
 | .lss=>some lt
 | .leq=>some (lt || eq)
 | .gtr=>some !(lt || eq)
 | .geq=>some !lt
 | _=>none
def intCmp (op:BinOp) (a b:Int):ah Bool:=
 match op with
 | .eql=>some (a == b)
 | .neq=>some (a != b)
 | .lss=>some (decide (a<b))
 | .leq=>some (decide (a<=b))
 | .gtr=>some (decide (a > b))
 | .geq=>some (decide (a ≥ b))
 | _=>none
def NE (op:BinOp) (k:IntKind) (a b:Int):ah Int:=
 match op with
 | .add=>some (k.wrap (a+b))
 | .sub=>some (k.wrap (a-b))
 | .mul=>some (k.wrap (a*b))
 | .quo=>if b=0 then none else some (k.wrap (a.tdiv b))
 | .rem=>if b=0 then none else some (a.tmod b)
 | .and=>some (bits .and k a b)
 | .or=>some (bits .or k a b)
 | .xor=>some (bits .xor k a b)
 | .andNot=>some (bits .andNot k a b)
 | _=>none
def aoD (op:BinOp) (k:IntKind) (a b:Int):ah Int:=
 if b<0 then none else match op with
  | .shl=>some (k.wrap (a*2 ^ (Nat.min b.toNat k.bits)))
  | .shr=>some (a.fdiv (2 ^ (Nat.min b.toNat k.bits)))
  | _=>none
def dfe:DF->aa aj->ah aj
 | .bin op,[.int k a,.int k' b]=>if op = .shl\/op = .shr then (aoD op k a b).map (.int k ·) else if k=k' then match NE op k a b with
   | some n=>some (.int k n)
   | none=>(intCmp op a b).map .bool
  else none
 | .bin op,[.string a,.string b]=>if op = .add then (if a.size+b.size<=4611686018427387904 then some (.string (a++b)) else none) else (agC op a b).map .bool
 | .beq ne,[.bool a,.bool b]=>some (.bool (if ne then !(a == b) else a == b))
 | .not,[.bool a]=>some (.bool !a)
 | .neg,[.int k a]=>some (.int k (k.wrap (0-a)))
 | .conv k,[.int _ a]=>some (.int k (k.wrap a))
 | .min,[.int k a,.int _ b]=>some (.int k (if b<a then b else a))
 | .max,[.int k a,.int _ b]=>some (.int k (if b > a then b else a))
 | .sidx,[.string s,.int _ i]=>if 0<=i then (s[i.toNat]?).map fun b=>.int .u8 b.toNat else none
 | .slen,[.string s]=>some (.int .i64 s.size)
 | .ssl lo hi,.string s::is=>match lo,hi,is with
  | false,false,[]=>some (.string (s.extract 0 s.size))
  | true,false,[.int _ l]=>if 0<=l/\l<=s.size then some (.string (s.extract l.toNat s.size)) else none
  | false,true,[.int _ h]=>if 0<=h/\h<=s.size then some (.string (s.extract 0 h.toNat)) else none
  | true,true,[.int _ l,.int _ h]=>if 0<=l/\l<=h/\h<=s.size then some (.string (s.extract l.toNat h.toNat)) else none
  | _,_,_=>none
 | .pick,[.bool c,a,b]=>some (if c then a else b)
 | _,_=>none
theorem az6 {f:DF} {xs:aa aj} {y:aj} (hx:xs.all sc=true) (h:dfe f xs=some y):sc y=true:=by
 unfold dfe at h;split at h
 ·split at h
  ·simp only [dh] at h;obtain ⟨_,_,rfl⟩:=h;rfl
  ·split at h
   ·split at h
    ·cases h;rfl
    ·simp only [dh] at h;obtain ⟨_,_,rfl⟩:=h;rfl
   ·cases h
 ·split at h
  ·split at h
   ·cases h;rfl
   ·cases h
  ·simp only [dh] at h;obtain ⟨_,_,rfl⟩:=h;rfl
 ·cases h;rfl
 ·cases h;rfl
 ·cases h;rfl
 ·cases h;rfl
 ·cases h;rfl
 ·cases h;rfl
 ·split at h
  ·simp only [dh] at h;obtain ⟨_,_,rfl⟩:=h;rfl
  ·cases h
 ·cases h;rfl
 ·split at h
  ·cases h;rfl
  ·split at h
   ·cases h;rfl
   ·cases h
  ·split at h
   ·cases h;rfl
   ·cases h
  ·split at h
   ·cases h;rfl
   ·cases h
  ·cases h
 ·cases h;simp at hx;split
  ·exact hx.2.1
  ·exact hx.2.2
 ·cases h
theorem SA {P:aS} {op:BinOp} {t:TypeId} {x y:iL} {u v r:aj} {w:aA} (hu:sc u=true) (hv:sc v=true) (h:dfe (.bin op) [u,v]=some r) :
  ((do eqGuard op t x y u v;binOp op t u v):Sem aj).run P w = .ok r w:=by
 have hg:(eqGuard op t x y u v).run P w = .ok () w:=by
  cases op<;>first
   | rfl
   | (cases u<;>simp [sc] at hu<;>cases v<;>simp [sc] at hv<;>rfl)
 rw [aI hg];cases u with
 | int k a=>
  cases v with
  | int k' b=>
   simp only [dfe] at h;split at h
   ·rename_i yg;simp only [dh] at h;obtain ⟨n,hn,rfl⟩:=h;have akc:binOp op t (.int k a) (.int k' b)=Op.shift op k a k' b:=by rcases yg with rfl|rfl<;>rfl
    rw [akc];unfold aoD at hn;unfold Op.shift;split at hn
    ·cases hn
    ·rename_i hb;simp only [hb,if_false];rcases yg with rfl|rfl<;>simp at hn<;>subst hn<;>rfl
   ·rename_i yg;simp only [not_or] at yg;split at h
    ·rename_i hk;subst hk;have akc:binOp op t (.int k a) (.int k b)=(match op with
      | .add | .sub | .mul=>Op.intArith op k a b
      | .quo | .rem=>Op.intDiv op k a b
      | .and | .or | .xor | .andNot=>Op.intBits op k a b
      | _=>Op.intCmp op a b):=by
      unfold binOp;cases op<;>simp at yg<;>simp
     rw [akc];cases op<;>simp [NE,Fw.intCmp] at h yg<;>first
      | (subst h;rfl)
      | (split at h
         ·rename_i hz
          split at hz<;>simp at hz
          subst hz;cases h
          rename_i hb
          simp [Op.intDiv,hb]
         ·simp at h)
    ·cases h
  | _=>simp [dfe] at h
 | string a=>
  cases v with
  | string b=>
   simp only [dfe] at h;have akc:binOp op t (.string a) (.string b)=Op.stringOp op a b:=by cases op<;>rfl
   rw [akc];split at h
   ·rename_i ho;subst ho;split at h
    ·rename_i hs;cases h;have aFg:¬(((a.size+b.size:Nat):Int) > IntKind.i64.max):=by
      have:IntKind.i64.max=9223372036854775807:=by decide
      rw [this];omega
     simp only [Op.stringOp,aFg,if_false];rfl
    ·cases h
   ·simp only [dh] at h;obtain ⟨c,hc,rfl⟩:=h;cases op<;>first
     | (cases hc;rfl)
     | (simp [agC] at hc)
  | _=>simp [dfe] at h
 | bool a=>simp [dfe] at h
 | _=>simp [sc] at hu
end Go.Fw
namespace Go.Fw
def gt (G:aa TT) (t:Nat):TT:=G.getD t .dead
def gm (a:Act) (t:Nat):aj:=a.tmps.getD t undef
def Le (D:Nat->TT) (s:Nat->AV) (tg:Nat->TT) (sv:Nat->AV):Prop:=∀t,D t = .dead\/(D t=tg t/\s t=sv t)
theorem Le.at {D:Nat->TT} {s:Nat->AV} {tg:Nat->TT} {sv:Nat->AV} (h:Le D s tg sv) {t:Nat} {T:TT} (ht:D t=T) (hT:T≠.dead):tg t=T/\sv t=s t:=by
 rcases h t with h|h
 ·exact absurd (ht.symm.trans h) hT
 ·exact ⟨by rw [<-h.1,ht],h.2.symm⟩
theorem p8 {a:Act} {d:Nat} (hd:d<a.tmps.size) (x:aj):gm (a.put (some d) x)=upd (gm a) d x:=by
 funext t;simp only [gm,Act.put,upd,rD,abA];by_cases h:t=d
 ·subst h;simp [hd]
 ·simp [h,mH h]
inductive DX where
 | t (i:Nat)
 | c (v:Value)
def DX.get (s:Nat->AV):DX->ah aj
 | .t i=>match s i with
  | .v [.v x] _=>some x
  | _=>none
 | .c v=>some v
def nR (D:Nat->TT):iL->ah DX
 | .tmp t=>match D t with
  | .val false [.d]=>some (.t t)
  | _=>none
 | .const v=>if sc v then some (.c v) else none
 | _=>none
section
variable {ac:Nat->Nat->aj} {κ0 κ:aQ} {w0 w:aA} {N:Nat} {tg D:Nat->TT} {sv s:Nat->AV} {a:Act}
theorem uW (h:R ac κ0 w0 κ w N tg sv (gm a)) (hD:Le D s tg sv) {x:iL} {X:DX} (hx:nR D x=some X) {v:aj} (hv:X.get s=some v):a.eval x=v/\sc v=true:=by
 cases x with
 | tmp t=>
  simp only [nR] at hx;split at hx
  ·rename_i hT;cases hx;simp only [DX.get] at hv;split at hv
   ·rename_i y is hs;cases hv;have h1:=h.tr t;obtain ⟨e1,e2⟩:=hD.at hT (by simp);rw [e1] at h1;simp only [TR] at h1;obtain ⟨as,vs,g1,g2,g3,g4,g5⟩:=h1;rw [e2,hs] at g1;cases g1;have mq:vs=[gm a t]:=by
     cases hx:gm a t<;>rw [hx] at g2<;>simp [cellsOf] at g2<;>exact g2.symm
    subst mq;simp only [aB,RC] at g5;have:=g5.1;simp at this;exact ⟨this.1,this.2⟩
   ·cases hv
  ·cases hx
 | const c=>
  simp only [nR] at hx;split at hx
  ·cases hx;simp only [DX.get] at hv;cases hv;rename_i hs;exact ⟨rfl,hs⟩
  ·cases hx
 | global g=>simp [nR] at hx
 | func f=>simp [nR] at hx
def NF (D:Nat->TT):aa iL->ah (aa DX)
 | []=>some []
 | x::xs=>match nR D x,NF D xs with
  | some X,some Xs=>some (X::Xs)
  | _,_=>none
def DXs (s:Nat->AV):aa DX->ah (aa aj)
 | []=>some []
 | X::Xs=>match X.get s,DXs s Xs with
  | some v,some vs=>some (v::vs)
  | _,_=>none
theorem acY (h:R ac κ0 w0 κ w N tg sv (gm a)) (hD:Le D s tg sv):∀{xs:aa iL} {Xs:aa DX} {vs:aa aj},NF D xs=some Xs->DXs s Xs=some vs->xs.map a.eval=vs/\vs.all sc=true
 | [],_,_,hx,hv=>by simp only [NF,aN] at hx;subst hx;simp only [DXs,aN] at hv;subst hv;simp
 | x::xs,Xs,vs,hx,hv=>by
  simp only [NF] at hx;split at hx
  ·rename_i X Xs' h1 h2;cases hx;simp only [DXs] at hv;split at hv
   ·rename_i v vs' h3 h4;cases hv;have e1:=uW h hD h1 h3;have e2:=acY h hD h2 h4;simp [e1.1,e1.2,e2.1,e2.2]
   ·cases hv
  ·cases hx
end
def XV (P:aS):Builtin->aa iL->aa TypeId->ah (DF × aa iL)
 | .len,[x],[t]=>match P.underlying t with
  | some .string=>some (.slen,[x])
  | _=>none
 | .min,[x,y],_=>some (.min,[x,y])
 | .max,[x,y],_=>some (.max,[x,y])
 | _,_,_=>none
def oD (P:aS):Op->ah (DF × aa iL)
 | .binOp op t x y _=>match P.underlying t with
  | some .bool=>if op = .eql\/op = .neq then some (.beq (decide (op = .neq)),[x,y]) else none
  | some (.int _)=>some (.bin op,[x,y])
  | some .string=>some (.bin op,[x,y])
  | _=>none
 | .unOp .not _ x=>some (.not,[x])
 | .unOp .neg _ x=>some (.neg,[x])
 | .convert src dst x=>match P.underlying src,P.underlying dst with
  | some (.int _),some (.int k)=>some (.conv k,[x])
  | _,_=>none
 | .pick c x y=>some (.pick,[c,x,y])
 | .index t x i=>match P.underlying t with
  | some .string=>some (.sidx,[x,i])
  | _=>none
 | .slice t x lo hi none=>match P.underlying t with
  | some .string=>some (.ssl lo.isSome hi.isSome,x::(lo.toList++hi.toList))
  | _=>none
 | .call c=>match c.callee with
  | .builtin b=>XV P b c.args.toList c.argTypes.toList
  | _=>none
 | _=>none
theorem dG {P:aS} {e:Sem aj} {v:aj} {w w':aA} (h:e.run P w = .ok v w'):((do pure (Next.value (<-e))):Sem Next).run P w = .ok (.value v) w':=by
 rw [aI h];rfl
theorem Dl {ρ:iL->aj} {o:bP} {b:Builtin} {args:Array iL} {ats:Array TypeId} (h:o.op = .call { callee:=.builtin b,args,argTypes:=ats }) :
  ∃cs,execOp ρ o=builtin b ats o.type cs (args.map ρ):=by
 refine ⟨args.map fun | .const _=>true|_=>false,?_⟩;unfold execOp;rw [h];rfl
theorem aoE {P:aS} {o:bP} {ρ:iL->aj} {f:DF} {xs:aa iL} {y:aj} {w:aA} (hc:oD P o.op=some (f,xs)) (hs:(xs.map ρ).all sc=true) (he:dfe f (xs.map ρ)=some y) :
  (execOp ρ o).run P w = .ok (.value y) w:=by
 unfold execOp;cases lI:o.op with
 | binOp op t x z u=>
  rw [lI] at hc;simp only [oD] at hc;simp only;refine dG ?_;split at hc
  ·rename_i hu;split at hc
   ·rename_i lI;cases hc;simp only [bv,bI] at hs he;simp at hs;cases hx:ρ x<;>rw [hx] at hs he<;>simp [dfe] at he;cases hz:ρ z<;>rw [hz] at hs he<;>simp [dfe] at he;rename_i p q;have ry:(Op.equal t (.bool p) (.bool q)).run P w = .ok (p == q) w:=by
     unfold Op.equal Op.maxDepth;show (Op.equalIn (9999+1) t (.bool p) (.bool q)).run P w=_;unfold Op.equalIn;rw [aI (run_underlying hu w)];rfl
    rcases lI with rfl|rfl
    ·have hg:(eqGuard .eql t x z (.bool p) (.bool q)).run P w = .ok () w:=rfl;rw [aI hg];show ((do pure (Value.bool (<-Op.equal t (.bool p) (.bool q)))):Sem aj).run P w=_;rw [aI ry];simp at he;subst he;rfl
    ·have hg:(eqGuard .neq t x z (.bool p) (.bool q)).run P w = .ok () w:=rfl;rw [aI hg];show ((do pure (Value.bool (!(<-Op.equal t (.bool p) (.bool q))))):Sem aj).run P w=_;rw [aI ry];simp at he;subst he;rfl
   ·cases hc
  ·cases hc;simp only [bv,bI] at hs he;simp at hs;exact SA hs.1 hs.2 he
  ·cases hc;simp only [bv,bI] at hs he;simp at hs;exact SA hs.1 hs.2 he
  ·cases hc
 | unOp op t x=>
  rw [lI] at hc;simp only;refine dG ?_;cases op<;>simp [oD] at hc
  ·obtain ⟨rfl,rfl⟩:=hc;simp only [bv,bI] at hs he;cases hx:ρ x<;>rw [hx] at he<;>simp [dfe] at he;subst he;first
    | rfl
    | simp [Op.unary,Op.intArith,run_pure]
  ·obtain ⟨rfl,rfl⟩:=hc;simp only [bv,bI] at hs he;cases hx:ρ x<;>rw [hx] at he<;>simp [dfe] at he;subst he;first
    | rfl
    | simp [Op.unary,Op.intArith,run_pure]
 | convert src dst x=>
  rw [lI] at hc;simp only [oD] at hc;split at hc
  ·rename_i k0 k h1 h2;cases hc;simp only [bv,bI] at hs he;simp only;refine dG ?_;cases hx:ρ x<;>rw [hx] at he<;>simp [dfe] at he;subst he;unfold convert;rw [aI (run_underlying h1 w),aI (run_underlying h2 w)];rfl
  ·cases hc
 | pick c x z=>
  rw [lI] at hc;simp only [oD,aN,di] at hc;obtain ⟨rfl,rfl⟩:=hc;simp only [bv,bI] at hs he;cases hx:ρ c<;>rw [hx] at he<;>simp [dfe] at he;subst he;simp only [hx];rfl
 | index t x i=>
  rw [lI] at hc;simp only [oD] at hc;split at hc
  ·rename_i hu;cases hc;simp only [bv,bI] at hs he;simp only;refine dG ?_;cases hx:ρ x<;>rw [hx] at he<;>simp [dfe] at he;cases hi:ρ i<;>rw [hi] at he<;>simp [dfe] at he;rename_i str k n;obtain ⟨h0,b,hb,rfl⟩:=he;unfold Instr.index;have hs:(asIntOf (.int k n)).run P w = .ok (k,n) w:=rfl;rw [aI hs];simp only;rw [aI (run_underlying hu w)];simp only [h0,if_true,hb];rfl
  ·cases hc
 | slice t x lo hi mx=>
  rw [lI] at hc;cases mx with
  | some m=>simp [oD] at hc
  | none=>
   simp only [oD] at hc;split at hc
   ·rename_i hu;cases hc;simp only;refine dG ?_;have hb:∀(n y:Nat) (c:BoundsCode) (k:IntKind) (m:Int),0<=m->m<=y->n=m.toNat->(Instr.sliceBound (.int k m) y c).run P w = .ok n w:=by
     intro n y c k m h0 h1 hn;unfold Instr.sliceBound;have hs:(asIntOf (.int k m)).run P w = .ok (k,m) w:=rfl;rw [aI hs];simp only [h0,h1,and_self,if_true,hn];rfl
    have key:∀(str:ByteArray) (l h:Nat) (lo' jv:ah aj),(Instr.sliceBounds false str.size str.size lo' jv none).run P w = .ok (l,h,str.size) w ->
      (Instr.sliceAt t (.string str) lo' jv none).run P w = .ok (.string (str.extract l h)) w:=by
     intro str l h lo' jv wy;unfold Instr.sliceAt;rw [aI (run_underlying hu w)];simp only;unfold Instr.slice;rw [aI (run_underlying hu w)];simp only [Option.isSome_none,iK,if_false];rw [aI wy];rfl
    cases lo with
    | none=>
     cases hi with
     | none=>
      simp only [Option.isSome_none,Option.toList_none,m_,bv,bI] at hs he;show (Instr.sliceAt t (ρ x) none none none).run P w=_;cases hx:ρ x<;>rw [hx] at he<;>simp only [dfe] at he<;>try cases he
      exact key _ _ _ _ _ rfl
     | some hh=>
      simp only [Option.isSome_none,Option.isSome_some,Option.toList_none,Option.toList_some,gQ,bv,bI] at hs he;show (Instr.sliceAt t (ρ x) none (some (ρ hh)) none).run P w=_;cases hx:ρ x<;>rw [hx] at he<;>simp only [dfe] at he<;>try cases he
      cases hy:ρ hh<;>rw [hy] at he<;>simp only at he<;>try cases he
      split at he
      ·rename_i wB;cases he;refine key _ _ _ _ _ ?_;unfold Instr.sliceBounds;simp only;rw [aI (run_pure _ P w)]
       try simp only
       rw [aI (hb _ _ _ _ _ wB.1 wB.2 rfl)];rfl
      ·cases he
    | some ll=>
     cases hi with
     | none=>
      simp only [Option.isSome_none,Option.isSome_some,Option.toList_none,Option.toList_some,m_,bv,bI] at hs he;show (Instr.sliceAt t (ρ x) (some (ρ ll)) none none).run P w=_;cases hx:ρ x<;>rw [hx] at he<;>simp only [dfe] at he<;>try cases he
      cases hy:ρ ll<;>rw [hy] at he<;>simp only at he<;>try cases he
      split at he
      ·rename_i wB;cases he;refine key _ _ _ _ _ ?_;unfold Instr.sliceBounds;simp only;rw [aI (run_pure _ P w)]
       try simp only
       rw [aI (run_pure _ P w)]
       try simp only
       rw [aI (hb _ _ _ _ _ wB.1 wB.2 rfl)];rfl
      ·cases he
     | some hh=>
      simp only [Option.isSome_some,Option.toList_some,J_,bv,bI] at hs he;show (Instr.sliceAt t (ρ x) (some (ρ ll)) (some (ρ hh)) none).run P w=_;cases hx:ρ x<;>rw [hx] at he<;>simp only [dfe] at he<;>try cases he
      cases hy:ρ ll<;>rw [hy] at he<;>(try simp only at he)<;>try cases he
      cases hz:ρ hh<;>rw [hz] at he<;>simp only at he<;>try cases he
      split at he
      ·rename_i wB;cases he;refine key _ _ _ _ _ ?_;unfold Instr.sliceBounds;simp only;rw [aI (run_pure _ P w)]
       try simp only
       rw [aI (hb _ _ _ _ _ (by omega) (by omega) rfl)]
       try simp only
       rw [aI (hb _ _ _ _ _ wB.1 (by omega) rfl)];rfl
      ·cases he
   ·cases hc
 | call c=>
  rw [lI] at hc;obtain ⟨callee,args,ats⟩:=c;simp only [oD] at hc;cases callee with
  | builtin b=>
   simp only at hc;obtain ⟨cs,pu⟩:=Dl (ρ:=ρ) lI;obtain ⟨args⟩:=args;obtain ⟨ats⟩:=ats;simp only at hc;unfold execOp at pu;rw [lI] at pu;simp only at pu ⊢;rw [pu];unfold XV at hc;split at hc
   ·split at hc
    ·rename_i hu;cases hc;simp only [bv,bI] at hs he;cases hx:ρ _<;>rw [hx] at he<;>simp [dfe] at he;subst he;refine dG ?_;unfold Builtin.len_;simp only [XK,bv,bI,sI,J9,hx];rw [aI (run_underlying hu w)];rfl
    ·cases hc
   ·cases hc;simp only [bv,bI] at hs he;rename_i x z;cases hx:ρ x<;>rw [hx] at he<;>simp [dfe] at he;cases hz:ρ z<;>rw [hz] at he<;>simp [dfe] at he;subst he;refine dG ?_;unfold Builtin.min_;simp only [XK,bv,bI,hx,hz];rfl
   ·cases hc;simp only [bv,bI] at hs he;rename_i x z;cases hx:ρ x<;>rw [hx] at he<;>simp [dfe] at he;cases hz:ρ z<;>rw [hz] at he<;>simp [dfe] at he;subst he;refine dG ?_;unfold Builtin.max_;simp only [XK,bv,bI,hx,hz];rfl
   ·cases hc
  | _=>simp at hc
 | _=>rw [lI] at hc;simp [oD] at hc
end Go.Fw
namespace Go.Fw
inductive Eff where
 | det (f:(Nat->AV)->Option (List AV))
 | call (K:FuncId) (sg:aL) (args:(Nat->AV)->Option (List (List A))) (post:List A->List (List A)->(Nat->AV)->Option (List AV))
def Eff.rel (P:aS):Eff->(Nat->AV)->aa AV->Prop
 | .det f,s,v=>f s=some v
 | .call K sg args post,s,v=>∃as res outs,args s=some as/\Good P K sg as res outs/\post res outs s=some v
structure Stp where
 up:List (Nat × TT)
 kl:TT->TT
 rd:List Nat
 eff:Eff
def aG {α:Type} (f:Nat->α):aa (Nat × α)->Nat->α
 | [],t=>f t
 | (d,x)::l,t=>if t=d then x else aG f l t
theorem Dm {α:Type} (f:Nat->α) (d:Nat) (x:α):aG f [(d,x)]=upd f d x:=by funext t;simp [aG,upd]
def ek (P:aS) (N:Nat) (o:bP) (g:Nat->TT) (S:Stp):Prop:=
 ∀(ac:Nat->Nat->aj) (κ0 κ:aQ) (w0 w:aA) (tg:Nat->TT) (sv s:Nat->AV) (a:Act) (v:aa AV) (next:Act->aA->Prop) (Q:Exit->Act->aA->Prop),
  a.tmps.size=N->R ac κ0 w0 κ w N tg sv (gm a)->Le g s tg sv->S.eff.rel P s v ->
  (∀x w' κ' tg' sv',R ac κ0 w0 κ' w' N tg' sv' (gm (a.put o.dst x))->(∀t,tg' t=aG (fun t=>S.kl (tg t)) S.up t)->(∀t,sv' t=aG sv ((S.up.map (·.1)).zip v) t)->next (a.put o.dst x) w') ->
  o.wp P a w next Q
theorem Km {P:aS} {o:bP} {a:Act} {w w':aA} {next:Act->aA->Prop} {Q:Exit->Act->aA->Prop} {x:aj} (h:(execOp a.eval o).run P w = .ok (.value x) w') (hn:next (a.put o.dst x) w') :
  o.wp P a w next Q:=by
 unfold Oper.wp;rw [h];exact hn
theorem VO {P:aS} {o:bP} {a:Act} {w w':aA} {next:Act->aA->Prop} {Q:Exit->Act->aA->Prop} (h:(execOp a.eval o).run P w = .ok .skip w') (hn:next (a.put o.dst undef) w') :
  o.wp P a w next Q:=by
 unfold Oper.wp;rw [h];exact hn
def DX.rd:DX->aa Nat
 | .t i=>[i]
 | .c _=>[]
def Rz (f:DF) (Xs:aa DX) (s:Nat->AV):ah (aa AV):=
 match DXs s Xs with
 | some vs=>match dfe f vs with
  | some y=>some [.v [.v y] []]
  | none=>none
 | none=>none
def Stp.set (d:Nat) (tag:TT) (rd:aa Nat) (eff:Eff):Stp:=⟨[(d,tag)],fun T=>T.kill [d] [],rd,eff⟩
def Stp.mv (d:Nat) (srcs:aa Nat) (tag:TT) (rd:aa Nat) (eff:Eff):Stp:=⟨(d,tag)::srcs.map (fun t=>(t,.dead)),fun T=>T.kill (d::srcs) srcs,rd,eff⟩
def az7 (N:Nat) (o:bP) (S:Stp) (ac:Nat->Nat->aj) (κ0:aQ) (w0:aA) (tg:Nat->TT) (sv:Nat->AV) (a:Act) (v:aa AV) (next:Act->aA->Prop):Prop:=
 ∀x w' κ' tg' sv',R ac κ0 w0 κ' w' N tg' sv' (gm (a.put o.dst x))->(∀t,tg' t=aG (fun t=>S.kl (tg t)) S.up t)->(∀t,sv' t=aG sv ((S.up.map (·.1)).zip v) t)->next (a.put o.dst x) w'
section
variable {P:aS} {ac:Nat->Nat->aj} {κ0 κ':aQ} {w0 w w':aA} {N:Nat} {o:bP} {tg:Nat->TT} {sv:Nat->AV} {a:Act} {next:Act->aA->Prop} {Q:Exit->Act->aA->Prop} {d:Nat} {tag:TT} {av:AV} {x:aj} {rd srcs:aa Nat} {eff:Eff}
theorem iU (hd:o.dst=some d) (hN:a.tmps.size=N) (hdN:d<N) (eO:(execOp a.eval o).run P w = .ok (.value x) w')
  (hR:R ac κ0 w0 κ' w' N (kv tg d tag) (upd sv d av) (upd (gm a) d x)) (hn:az7 N o (Stp.set d tag rd eff) ac κ0 w0 tg sv a [av] next):o.wp P a w next Q:=by
 refine Km eO (hn x w' κ' (kv tg d tag) (upd sv d av) ?_ (fun t => ?_) (fun t => ?_))
 ·rw [hd,p8 (by omega)];exact hR
 ·show _=aG _ [(d,tag)] t;rw [Dm];rfl
 ·show _=aG sv [(d,av)] t;rw [Dm]
theorem NG (f:Nat->TT) (srcs:aa Nat) (t:Nat):aG f (srcs.map fun t=>(t,TT.dead)) t=if t∈srcs then .dead else f t:=by
 induction srcs with
 | nil=>simp [aG]
 | cons s srcs ih=>
  simp only [bv,aG,aY,ih];by_cases h:t=s
  ·simp [h]
  ·simp [h]
theorem wN (hd:o.dst=some d) (hN:a.tmps.size=N) (hdN:d<N) (eO:(execOp a.eval o).run P w = .ok (.value x) w')
  (hR:R ac κ0 w0 κ' w' N (upd (fun t=>if t∈srcs then .dead else (tg t).kill (d::srcs) srcs) d tag) (upd sv d av) (upd (gm a) d x))
  (hn:az7 N o (Stp.mv d srcs tag rd eff) ac κ0 w0 tg sv a [av] next):o.wp P a w next Q:=by
 refine Km eO (hn x w' κ' (upd (fun t=>if t∈srcs then .dead else (tg t).kill (d::srcs) srcs) d tag) (upd sv d av) ?_ (fun t => ?_) (fun t => ?_))
 ·rw [hd,p8 (by omega)];exact hR
 ·show _=aG _ ((d,tag)::srcs.map fun t=>(t,.dead)) t;simp only [aG,upd,NG];rfl
 ·show _=aG sv (((d,tag)::srcs.map fun t=>(t,TT.dead)).map (·.1) |>.zip [av]) t;simp [aG,upd]
end
def vR (P:aS) (N:Nat) (g:Nat->TT) (o:bP):ah Stp:=
 match o.dst,oD P o.op with
 | some d,some (f,xs)=>match NF g xs with
  | some Xs=>if d<N then some (Stp.set d (.val false [.d]) (Xs.flatMap DX.rd) (.det (Rz f Xs))) else none
  | none=>none
 | _,_=>none
theorem wO {P:aS} {N:Nat} {g:Nat->TT} {o:bP} {S:Stp} (h:vR P N g o=some S):ek P N o g S:=by
 unfold vR at h;split at h;case h_2=>cases h
 case h_1 d f xs hd hc=>
 split at h;case h_2=>cases h
 case h_1 Xs hX=>
 split at h;case isFalse=>cases h
 case isTrue hdN=>
 cases h;intro ac κ0 κ w0 w tg sv s a v next Q hN hR hL hv hn;simp only [Stp.set,Eff.rel,Rz] at hv;split at hv;case h_2=>cases hv
 case h_1 vs mq=>
 split at hv;case h_2=>cases hv
 case h_1 y hy=>
 cases hv;obtain ⟨e1,e2⟩:=acY hR hL hX mq;exact iU hd hN hdN (aoE (y:=y) hc (by rw [e1];exact e2) (by rw [e1];exact hy)) (XQ hR hdN (az6 e2 hy) (Grows.refl w)) hn
def abH (P:aS):Nat->TypeId->ah (aa CT)
 | 0,_=>none
 | f+1,t=>match P.underlying t with
  | some .bool=>some [.d]
  | some (.int _)=>some [.d]
  | some .string=>some [.d]
  | some (.slice e)=>(abH P f e).map fun c=>[.sl (.own none) c]
  | some (.struct fs)=>fs.toList.foldr (fun fl acc=>match abH P f fl.type,acc with
   | some a,some b=>some (a++b)
   | _,_=>none) (some [])
  | _=>none
def zA:aa CT->aa aj->ah (aa A)
 | [],[]=>some []
 | .d::cs,x::vs=>if sc x then (zA cs vs).map (.v x :: ·) else none
 | .sl _ _::cs,.slice none 0 0::vs=>(zA cs vs).map (.s [] :: ·)
 | _,_=>none
theorem RA:∀{cs:aa CT} {vs:aa aj} {as:aa A},zA cs vs=some as->ZR cs vs as
 | [],[],as,h=>by simp only [zA,aN] at h;subst h;simp [ZR]
 | .d::cs,x::vs,as,h=>by
  simp only [zA] at h;split at h
  ·rename_i hs;simp only [dh] at h;obtain ⟨as',h',rfl⟩:=h;simp only [ZR];exact ⟨trivial,hs,RA h'⟩
  ·cases h
 | .sl m e::cs,x::vs,as,h=>by
  unfold zA at h;split at h
  ·rename_i h1 h2;cases h1
  ·rename_i h1 _;cases h1
  ·rename_i h1 h2;cases h1;cases h2;simp only [dh] at h;obtain ⟨as',h',rfl⟩:=h;simp only [ZR];exact ⟨trivial,RA h'⟩
  ·cases h
 | [],_::_,as,h=>by simp [zA] at h
 | .d::_,[],as,h=>by simp [zA] at h
 | .sl _ _::_,[],as,h=>by simp [zA] at h
structure OX where
 ag:Bool
 cs:List CT
 t:Nat
 own:Bool
 get:(Nat->AV)->Option (List A)
 rd:List Nat
def iO (t:Nat) (s:Nat->AV):ah (aa A):=
 match s t with
 | .v as _=>some as
 | _=>none
def fuel:Nat:=12
def rM (P:aS) (g:Nat->TT) (ty:TypeId) (dummy:Nat):iL->ah OX
 | .tmp t=>match g t with
  | .val ag cs=>some ⟨ag,cs,t,!CT.nowns cs,iO t,[t]⟩
  | .alias ag cs _ _ _ _=>if CT.nowns cs then some ⟨ag,cs,t,false,iO t,[t]⟩ else none
  | _=>none
 | .const v=>match wI P ty,abH P fuel ty with
  | some ag,some Z=>match cellsOf ag v with
   | some vs=>match zA Z vs with
    | some as=>if iD Z then some ⟨ag,Z,FB+1+dummy,true,fun _=>some as,[]⟩ else none
    | none=>none
   | none=>none
  | _,_=>none
 | _=>none
section
variable {P:aS} {ac:Nat->Nat->aj} {κ0 κ:aQ} {w0 w:aA} {N:Nat} {tg g:Nat->TT} {sv s:Nat->AV} {a:Act}
theorem rO (h:R ac κ0 w0 κ w N tg sv (gm a)) (hL:Le g s tg sv) {ty:TypeId} {dummy:Nat} {x:iL} {X:OX} (hx:rM P g ty dummy x=some X) {as:aa A} (hg:X.get s=some as) :
  ∃vs,cellsOf X.ag (a.eval x)=some vs/\vs.length=X.cs.length/\aB κ w X.cs (X.t,[]) 0 (fun k=>vs.getD k undef) as/\(X.own=false->CT.nowns X.cs=true)/\X.t≠FB /\
   rF ac X.cs (fun k=>vs.getD k undef):=by
 cases x with
 | tmp t=>
  simp only [rM] at hx;split at hx
  ·rename_i ag cs hT;cases hx;obtain ⟨e1,e2⟩:=hL.at hT (by simp);have h1:=h.tr t;rw [e1] at h1;simp only [TR] at h1;obtain ⟨as',vs,g1,g2,g3,g4,g5⟩:=h1;rw [e2] at g1;simp only [iO,g1,aN] at hg;subst hg;refine ⟨vs,g2,g3,g5,fun hn=>by simpa using hn,fun he => ?_,g4⟩;simp only at he;have:=h.out t (by have:=h.nle;omega);rw [e1] at this;cases this
  ·rename_i ag cs r sk off S0 hT;split at hx;case isFalse=>cases hx
   case isTrue hn=>
   cases hx;obtain ⟨e1,e2⟩:=hL.at hT (by simp);have h1:=h.tr t;rw [e1] at h1;simp only [TR] at h1;obtain ⟨as',is,vs,gf,ra,row,g1,g2,g3,g4,g5,_⟩:=h1;rw [e2] at g1;simp only [iO,g1,aN] at hg;subst hg;refine ⟨vs,g2,g3,g5,fun _=>hn,fun he => ?_,?_⟩
   ·simp only at he;have:=h.out t (by have:=h.nle;omega);rw [e1] at this;cases this
   ·intro k j c e hc;have:=nowns_nth hn hc;simp [CT.nown] at this
  ·cases hx
 | const v=>
  simp only [rM] at hx;split at hx;case h_2=>cases hx
  case h_1 ag Z h1 h2=>
  split at hx;case h_2=>cases hx
  case h_1 vs mq=>
  split at hx;case h_2=>cases hx
  case h_1 as' jU=>
  split at hx;case isFalse=>cases hx
  case isTrue BG=>
  cases hx;simp only [aN] at hg;subst hg;have hz:=RA jU;exact ⟨vs,mq,Dj hz,I8 hz (fun i _=>by simp),fun he=>by simp at he,by simp only;omega,gp BG⟩
 | global _=>simp [rM] at hx
 | func _=>simp [rM] at hx
where
 nowns_nth:∀{cs:List CT} {k:Nat} {c:CT},CT.nowns cs=true->cs[k]?=some c->c.nown=true
  | c::cs,0,c',h,hc=>by simp at hc;subst hc;simp only [CT.nowns,aU] at h;exact h.1
  | c::cs,k+1,c',h,hc=>by simp only [CT.nowns,aU] at h;exact nowns_nth h.2 (by simpa using hc)
  | [],_,_,_,hc=>by simp at hc
end
end Go.Fw
namespace Go.Fw
section
variable {ac:Nat->Nat->aj} {κ0 κ:aQ} {w0 w w':aA} {N:Nat} {tg:Nat->TT} {sv:Nat->AV} {tm:Nat->aj}
theorem ayQ (h:R ac κ0 w0 κ w N tg sv tm) {d:Nat} (hd:d<N) {ag:Bool} {x:aj} {vs:aa aj} {Z:aa CT} {as:aa A} (hx:cellsOf ag x=some vs) (hz:ZR Z vs as) (hp:iD Z=true) (hw:Grows w w') :
  R ac κ0 w0 (bf κ (iN d) none) w' N (kv tg d (.val ag Z)) (upd sv d (.v as [])) (upd tm d x):=by
 refine nO h hd hw (fun _ _ h=>by cases h) ?_;simp only [TR,bS];exact ⟨as,vs,rfl,hx,Dj hz,gp hp,I8 hz fun i _=>by simp⟩
theorem arI (h:R ac κ0 w0 κ w N tg sv tm) {d:Nat} (hd:d<N) {av:AV} {x:aj} (hw:Grows w w') :
  R ac κ0 w0 (bf κ (iN d) none) w' N (kv tg d .dead) (upd sv d av) (upd tm d x):=
 nO h hd hw (fun _ _ h=>by cases h) (by simp [TR])
end
def iH (t:Nat) (s:Nat->AV):ah (aa AV):=(iO t s).map fun as=>[.v as []]
def yR (t:Nat) (s:Nat->AV):ah (aa AV):=some [s t]
def mvT (N:Nat) (g:Nat->TT) (fe:Bool) (d t:Nat):ah Stp:=
 if d<N/\t≠d then match g t with
  | .val ag cs=>
   if CT.nowns cs then some (Stp.set d (.val ag cs) [t] (.det (iH t)))
   else if fe then
    if CT.lives cs then some (Stp.set d (.alias ag (CT.roizes (t::CT.srcss cs) cs) t [] 0 (t::CT.srcss cs)) [t] (.det (iH t))) else none
   else if CT.mens [t] cs then none else some (Stp.mv d [t] (.val ag cs) [t] (.det (iH t)))
  | .tup ws cs=>if CT.mens [t] cs then none else some (Stp.mv d [t] (.tup ws cs) [t] (.det (iH t)))
  | .alias ag cs r sk off S=>if r≠d/\CT.nowns cs then some (Stp.set d (.alias ag cs r sk off S) [t] (.det (yR t))) else none
  | .ptr r sk off S=>if r≠d then some (Stp.set d (.ptr r sk off S) [t] (.det (yR t))) else none
  | .box _=>some (Stp.set d (.ptr t [] 0 [t]) [] (.det fun _=>some [.p []]))
  | .dead=>none
 else none
def yS (P:aS) (N:Nat) (g:Nat->TT) (fe:Bool) (o:bP):ah Stp:=
 match o.dst,o.op with
 | some d,.move (.tmp t)=>mvT N g fe d t
 | some d,.assign (.tmp t)=>mvT N g fe d t
 | some d,.nilCheck (.tmp t)=>match g t with
  | .ptr _ _ _ _=>mvT N g fe d t
  | .box _=>mvT N g fe d t
  | _=>none
 | some d,.move (.const v)=>cst d v
 | some d,.assign (.const v)=>cst d v
 | _,_=>none
where
 cst (d:Nat) (v:Value):Option Stp:=
  if d<N then match v with
   | .pointer none=>some (Stp.set d .dead [] (.det fun _=>some [.n]))
   | v=>match rM P g o.type 0 (.const v) with
    | some X=>some (Stp.set d (.val X.ag X.cs) [] (.det fun _=>(X.get fun _=>.n).map fun as=>[.v as []]))
    | none=>none
  else none
theorem cO {t:Nat} {s:Nat->AV} {as:aa A} (h:iO t s=some as):∃is,s t = .v as is:=by
 unfold iO at h;split at h
 ·rename_i is hs;cases h;exact ⟨_,hs⟩
 ·cases h
theorem XW {P:aS} {N:Nat} {g:Nat->TT} {fe:Bool} {d t:Nat} {o:bP} {S:Stp} (hd:o.dst=some d) (h:mvT N g fe d t=some S)
  (eO:∀(a:Act) (w:aA),(∀(κ0 κ:aQ) (ac:Nat->Nat->aj) (w0:aA) (tg:Nat->TT) (sv s:Nat->AV),R ac κ0 w0 κ w N tg sv (gm a)->Le g s tg sv->(execOp a.eval o).run P w = .ok (.value (gm a t)) w)):ek P N o g S:=by
 unfold mvT at h;split at h;case isFalse=>cases h
 case isTrue hc=>
 obtain ⟨hdN,fD⟩:=hc;have bR:∀{ac κ0 w0 κ w tg sv tm},R ac κ0 w0 κ w N tg sv tm->tg t≠.dead->t<N:=fun hR ht=>by
  apply sM;intro cZ;exact ht (hR.out t cZ)
 split at h
 ·rename_i ag cs hT;split at h
  ·rename_i eD;cases h;intro ac κ0 κ w0 w tg sv s a v next Q hN hR hL hv hn;simp only [Stp.set,Eff.rel,iH,dh] at hv;obtain ⟨as,hg,rfl⟩:=hv;obtain ⟨e1,e2⟩:=hL.at hT (by simp);have h1:=hR.tr t;rw [e1] at h1;simp only [TR] at h1;obtain ⟨as',vs,g1,_⟩:=h1;obtain ⟨is,hs⟩:=cO hg;rw [e2,hs] at g1;cases g1;exact iU hd hN hdN (eO a w _ _ _ _ _ _ _ hR hL) (az0 hR hdN e1 eD (by rw [e2,hs])) hn
  ·split at h
   ·split at h;case isFalse=>cases h
    case isTrue lJ=>
    cases h;intro ac κ0 κ w0 w tg sv s a v next Q hN hR hL hv hn;simp only [Stp.set,Eff.rel,iH,dh] at hv;obtain ⟨as,hg,rfl⟩:=hv;obtain ⟨e1,e2⟩:=hL.at hT (by simp);have h1:=hR.tr t;rw [e1] at h1;simp only [TR] at h1;obtain ⟨as',vs,g1,_⟩:=h1;obtain ⟨is,hs⟩:=cO hg;rw [e2,hs] at g1;cases g1;exact iU hd hN hdN (eO a w _ _ _ _ _ _ _ hR hL) (ayL hR hdN fD e1 lJ (by rw [e2,hs]) (by simp) (fun r hr=>by simp [hr])) hn
   ·split at h;case isTrue=>cases h
    case isFalse hm=>
    cases h;intro ac κ0 κ w0 w tg sv s a v next Q hN hR hL hv hn;simp only [Stp.mv,Eff.rel,iH,dh] at hv;obtain ⟨as,hg,rfl⟩:=hv;obtain ⟨e1,e2⟩:=hL.at hT (by simp);have h1:=hR.tr t;rw [e1] at h1;simp only [TR] at h1;obtain ⟨as',vs,g1,_⟩:=h1;obtain ⟨is,hs⟩:=cO hg;rw [e2,hs] at g1;cases g1;exact wN hd hN hdN (eO a w _ _ _ _ _ _ _ hR hL) (az1 hR hdN (bR hR (by simp [e1])) e1 (by simpa using hm) (by rw [e2,hs])) hn
 ·rename_i ws cs hT;split at h;case isTrue=>cases h
  case isFalse hm=>
  cases h;intro ac κ0 κ w0 w tg sv s a v next Q hN hR hL hv hn;simp only [Stp.mv,Eff.rel,iH,dh] at hv;obtain ⟨as,hg,rfl⟩:=hv;obtain ⟨e1,e2⟩:=hL.at hT (by simp);have h1:=hR.tr t;rw [e1] at h1;simp only [TR] at h1;obtain ⟨as',xs,vs,g1,_⟩:=h1;obtain ⟨is,hs⟩:=cO hg;rw [e2,hs] at g1;cases g1;exact wN hd hN hdN (eO a w _ _ _ _ _ _ _ hR hL) (ayN hR hdN (bR hR (by simp [e1])) e1 (by simpa using hm) (by rw [e2,hs])) hn
 ·rename_i ag cs r sk off S0 hT;split at h;case isFalse=>cases h
  case isTrue hr=>
  cases h;intro ac κ0 κ w0 w tg sv s a v next Q hN hR hL hv hn;simp only [Stp.set,Eff.rel,yR,aN] at hv;subst hv;obtain ⟨e1,e2⟩:=hL.at hT (by simp);exact iU hd hN hdN (eO a w _ _ _ _ _ _ _ hR hL) (by rw [<-e2];exact arC hR hdN e1 hr.1 hr.2) hn
 ·rename_i r sk off S0 hT;split at h;case isFalse=>cases h
  case isTrue hr=>
  cases h;intro ac κ0 κ w0 w tg sv s a v next Q hN hR hL hv hn;simp only [Stp.set,Eff.rel,yR,aN] at hv;subst hv;obtain ⟨e1,e2⟩:=hL.at hT (by simp);exact iU hd hN hdN (eO a w _ _ _ _ _ _ _ hR hL) (by rw [<-e2];exact ayM hR hdN e1 hr) hn
 ·rename_i cs hT;cases h;intro ac κ0 κ w0 w tg sv s a v next Q hN hR hL hv hn;simp only [Stp.set,Eff.rel,aN] at hv;subst hv;obtain ⟨e1,e2⟩:=hL.at hT (by simp);exact iU hd hN hdN (eO a w _ _ _ _ _ _ _ hR hL) (aCY hR hdN fD e1) hn
 ·cases h
theorem arJ {P:aS} {N:Nat} {g:Nat->TT} {o:bP} {d:Nat} {v:aj} {S:Stp} (hd:o.dst=some d) (h:yS.cst P N g o d v=some S)
  (eO:∀(a:Act) (w:aA),(execOp a.eval o).run P w = .ok (.value v) w):ek P N o g S:=by
 unfold yS.cst at h;split at h;case isFalse=>cases h
 case isTrue hdN=>
 split at h
 ·cases h;intro ac κ0 κ w0 w tg sv s a v next Q hN hR hL hv hn;simp only [Stp.set,Eff.rel,aN] at hv;subst hv;exact iU hd hN hdN (eO a w) (arI hR hdN (Grows.refl w)) hn
 ·split at h;case h_2=>cases h
  case h_1 X hX=>
  cases h;intro ac κ0 κ w0 w tg sv s a v' next Q hN hR hL hv hn;simp only [Stp.set,Eff.rel,dh] at hv;obtain ⟨as,hg,rfl⟩:=hv;simp only [rM] at hX;split at hX;case h_2=>cases hX
  case h_1 ag Z h1 h2=>
  split at hX;case h_2=>cases hX
  case h_1 vs mq=>
  split at hX;case h_2=>cases hX
  case h_1 as' jU=>
  split at hX;case isFalse=>cases hX
  case isTrue BG=>
  cases hX;simp only [aN] at hg;subst hg;exact iU hd hN hdN (eO a w) (ayQ hR hdN mq (RA jU) BG (Grows.refl w)) hn
theorem XX {P:aS} {N:Nat} {g:Nat->TT} {fe:Bool} {o:bP} {S:Stp} (h:yS P N g fe o=some S):ek P N o g S:=by
 unfold yS at h;split at h
 ·rename_i d t hd ho;refine XW hd h fun a w _ _ _ _ _ _ _ _ _ => ?_
  unfold execOp;rw [ho];rfl
 ·rename_i d t hd ho;refine XW hd h fun a w _ _ _ _ _ _ _ _ _ => ?_
  unfold execOp;rw [ho];rfl
 ·rename_i d t hd ho;split at h
  ·rename_i r sk off S0 hT;refine XW hd h fun a w _ _ _ _ tg sv s hR hL => ?_
   obtain ⟨e1,e2⟩:=hL.at hT (by simp);have h1:=hR.tr t;rw [e1] at h1;simp only [TR] at h1;obtain ⟨is,B,O,_,_,_,_,h5⟩:=h1;unfold execOp;rw [ho];have:a.eval (.tmp t)=gm a t:=rfl;simp only [this,h5];rfl
  ·rename_i cs hT;refine XW hd h fun a w _ _ _ _ tg sv s hR hL => ?_
   obtain ⟨e1,e2⟩:=hL.at hT (by simp);have h1:=hR.tr t;rw [e1] at h1;simp only [TR] at h1;obtain ⟨as,b,_,h5,_⟩:=h1;unfold execOp;rw [ho];have:a.eval (.tmp t)=gm a t:=rfl;simp only [this,h5];rfl
  ·cases h
 ·rename_i d v hd ho;refine arJ hd h fun a w => ?_
  unfold execOp;rw [ho];rfl
 ·rename_i d v hd ho;refine arJ hd h fun a w => ?_
  unfold execOp;rw [ho];rfl
 ·cases h
end Go.Fw
namespace Go.Fw
structure PX where
 r:Nat
 sk:Sk
 off:Nat
 S:List Nat
 idx:(Nat->AV)->Option (List Nat)
 rd:List Nat
def aoF (t:Nat) (s:Nat->AV):ah (aa Nat):=
 match s t with
 | .p is=>some is
 | _=>none
def plX (g:Nat->TT):iL->ah PX
 | .tmp t=>match g t with
  | .ptr r sk off S=>some ⟨r,sk,off,S,aoF t,[t]⟩
  | .box _=>some ⟨t,[],0,[t],fun _=>some [],[]⟩
  | _=>none
 | _=>none
section
variable {P:aS} {ac:Nat->Nat->aj} {κ0 κ:aQ} {w0 w:aA} {N:Nat} {tg g:Nat->TT} {sv s:Nat->AV} {a:Act}
theorem NH (h:R ac κ0 w0 κ w N tg sv (gm a)) (hL:Le g s tg sv) {x:iL} {X:PX} (hx:plX g x=some X) {is:aa Nat} (hi:X.idx s=some is) :
  ∃B O,I9 κ w tg (gm a) X.r X.sk is X.S B O/\a.eval x = .pointer (some ⟨B,O+X.off,none⟩):=by
 cases x with
 | tmp t=>
  simp only [plX] at hx;split at hx
  ·rename_i r sk off S hT;cases hx;obtain ⟨e1,e2⟩:=hL.at hT (by simp);simp only [aoF] at hi;split at hi
   ·rename_i is' hs;cases hi;exact h.pla_ptr e1 (by rw [e2,hs])
   ·cases hi
  ·rename_i cs hT;cases hx;obtain ⟨e1,e2⟩:=hL.at hT (by simp);simp only [aN] at hi;subst hi;obtain ⟨B,h1,h2⟩:=h.pla_box e1;exact ⟨B,0,h1,h2⟩
  ·cases hx
 | _=>simp [plX] at hx
theorem AB (hL:Le g s tg sv) {r:Nat} {cs:aa CT} (h:(g r).cts=some cs):(tg r).cts=some cs/\sv r=s r:=by
 have aX:g r≠.dead:=fun he=>by rw [he] at h;simp [TT.cts] at h
 obtain ⟨e1,e2⟩:=hL.at rfl aX;exact ⟨by rw [e1];exact h,e2⟩
theorem R.sv_root {tm:Nat->aj} (h:R ac κ0 w0 κ w N tg sv tm) {r:Nat} {cs:aa CT} (ht:(tg r).cts=some cs):∃ra,sv r = .v ra []:=by
 have h1:=h.tr r;cases hT:tg r<;>rw [hT] at ht h1<;>simp [TT.cts] at ht
 ·simp only [TR] at h1;obtain ⟨as,vs,g1,_⟩:=h1;exact ⟨as,g1⟩
 ·simp only [TR] at h1;obtain ⟨as,b,g1,_⟩:=h1;exact ⟨as,g1⟩
end
def XY (X:PX) (s:Nat->AV):ah (aa A × aa Nat):=
 match X.idx s,iO X.r s with
 | some is,some ra=>match bZ ra X.sk is with
  | some row=>some (row,is)
  | none=>none
 | _,_=>none
def C_ (X:PX) (n:Nat) (al:Bool) (s:Nat->AV):ah (aa AV):=
 match XY X s with
 | some (row,is)=>some [.v ((row.drop X.off).take n) (if al then is else [])]
 | none=>none
def abI (P:aS) (N:Nat) (g:Nat->TT) (o:bP):ah Stp:=
 match o.dst,o.op with
 | some d,.load t x=>match plX g x,P.info? t,wI P t with
  | some X,some i,some ag=>match (g X.r).cts with
   | some cs=>match iq false cs X.sk with
    | some e=>
     let c:=(e.drop X.off).take i.size
     if d<N/\X.off+i.size<=e.length/\CT.lives c=true/\(ag=true\/i.size=1) then
      if CT.nowns c/\iD c then some (Stp.set d (.val ag c) (X.r::X.rd) (.det (C_ X i.size false)))
      else if X.r≠d then
       let S':=X.r::(X.S++CT.srcss c)
       some (Stp.set d (.alias ag (CT.roizes S' c) X.r X.sk X.off S') (X.r::X.rd) (.det (C_ X i.size true)))
      else none
     else none
    | none=>none
   | none=>none
  | _,_,_=>none
 | _,_=>none
theorem aoG {X:PX} {s:Nat->AV} {row:aa A} {is:aa Nat} (h:XY X s=some (row,is)):X.idx s=some is/\∃ra,iO X.r s=some ra/\bZ ra X.sk is=some row:=by
 unfold XY at h;split at h
 ·rename_i is' ra h1 h2;split at h
  ·rename_i row' h3;cases h;exact ⟨h1,ra,h2,h3⟩
  ·cases h
 ·cases h
theorem aoH {P:aS} {N:Nat} {g:Nat->TT} {o:bP} {S:Stp} (h:abI P N g o=some S):ek P N o g S:=by
 unfold abI at h;split at h;case h_2=>cases h
 case h_1 d t x hd ho=>
 split at h;case h_2=>cases h
 case h_1 X i ag hX hi Nr=>
 split at h;case h_2=>cases h
 case h_1 cs qi=>
 split at h;case h_2=>cases h
 case h_1 e he=>
 simp only at h;split at h;case isFalse=>cases h
 case isTrue hc=>
 obtain ⟨hdN,hn,lJ,aq_⟩:=hc;have ayc:ag=false->i.size=1:=fun hf=>by rcases aq_ with h1|h1<;>simp_all
 -- what the load runs to
 have main:∀(ac:Nat->Nat->aj) (κ0 κ:aQ) (w0 w:aA) (tg:Nat->TT) (sv s:Nat->AV) (a:Act) (row:aa A) (is:aa Nat),R ac κ0 w0 κ w N tg sv (gm a)->Le g s tg sv->XY X s=some (row,is) ->
   ∃B O v ra,I9 κ w tg (gm a) X.r X.sk is X.S B O/\(tg X.r).cts=some cs/\sv X.r = .v ra []/\bZ ra X.sk is=some row/\(execOp a.eval o).run P w = .ok (.value v) w /\
    (ag=true->v = .agg ((List.range i.size).map fun k=>cellD w B (O+X.off+k)).toArray)/\(ag=false->v=cellD w B (O+X.off)/\i.size=1):=by
  intro ac κ0 κ w0 w tg sv s a row is hR hL hlk;obtain ⟨Mw,ra,J4,hlk⟩:=aoG hlk;obtain ⟨B,O,hp,kr⟩:=NH hR hL hX Mw;obtain ⟨sG,jB⟩:=AB hL qi;obtain ⟨ra',yh⟩:=hR.sv_root sG;obtain ⟨is',g_⟩:=cO J4;rw [jB,g_] at yh;cases yh;have om:sv X.r = .v ra []:=by rw [jB,g_]
  obtain ⟨oo,p,j,_,hrd,_⟩:=hR.row sG om hp he hlk;obtain ⟨v,eO,h1,h0⟩:=XN (P:=P) hi Nr ayc (b:=B) (o:=O+X.off) (w:=w) fun k hk1 hk2=>hrd k (by omega) (by omega)
  refine ⟨B,O,v,ra,hp,sG,om,hlk,?_,h1,fun hf=>⟨h0 hf,ayc hf⟩⟩;unfold execOp;rw [ho];simp only;exact dG (by rw [kr];exact eO)
 split at h
 ·rename_i hnn;cases h;intro ac κ0 κ w0 w tg sv s a v next Q hN hR hL hv bU;simp only [Stp.set,Eff.rel,C_] at hv;split at hv;case h_2=>cases hv
  case h_1 row is hlk=>
  cases hv;obtain ⟨B,O,v,ra,hp,sG,om,awJ,eO,h1,h0⟩:=main _ _ _ _ _ _ _ _ _ _ _ hR hL hlk;exact iU hd hN hdN eO (az3 hR hdN sG om hp he awJ hn hnn.1 hnn.2 h1 h0 lJ) bU
 ·split at h;case isFalse=>cases h
  case isTrue hrd=>
  cases h;intro ac κ0 κ w0 w tg sv s a v next Q hN hR hL hv bU;simp only [Stp.set,Eff.rel,C_] at hv;split at hv;case h_2=>cases hv
  case h_1 row is hlk=>
  cases hv;obtain ⟨B,O,v,ra,hp,sG,om,awJ,eO,h1,h0⟩:=main _ _ _ _ _ _ _ _ _ _ _ hR hL hlk;exact iU hd hN hdN eO (ayP hR hdN hrd sG om hp he awJ hn h1 h0 lJ (by simp) (fun q hq=>by simp [hq]) (fun q hq=>by simp [hq])) bU
def XZ (X:PX) (s:Nat->AV):ah (aa AV):=(X.idx s).map fun is=>[.p is]
def VP (P:aS) (N:Nat) (g:Nat->TT) (o:bP):ah Stp:=
 match o.dst,o.op with
 | some d,.fieldAddr st x f=>match plX g x,P.underlying st with
  | some X,some (.struct fs)=>match fs[f]? with
   | some fi=>match P.info? fi.type with
    | some i=>if d<N/\i.size≠0/\X.r≠d then some (Stp.set d (.ptr X.r X.sk (X.off+fi.offset) X.S) X.rd (.det (XZ X))) else none
    | none=>none
   | none=>none
  | _,_=>none
 | _,_=>none
theorem akB {P:aS} {N:Nat} {g:Nat->TT} {o:bP} {S:Stp} (h:VP P N g o=some S):ek P N o g S:=by
 unfold VP at h;split at h;case h_2=>cases h
 case h_1 d st x f hd ho=>
 split at h;case h_2=>cases h
 case h_1 X fs hX yJ=>
 split at h;case h_2=>cases h
 case h_1 fi hfi=>
 split at h;case h_2=>cases h
 case h_1 i hi=>
 split at h;case isFalse=>cases h
 case isTrue hc=>
 cases h;intro ac κ0 κ w0 w tg sv s a v next Q hN hR hL hv bU;simp only [Stp.set,Eff.rel,XZ,dh] at hv;obtain ⟨is,Mw,rfl⟩:=hv;obtain ⟨B,O,hp,kr⟩:=NH hR hL hX Mw;refine iU hd hN hc.1 (w':=w) (x:=.pointer (some ⟨B,O+(X.off+fi.offset),none⟩)) ?_ (agA hR hc.1 hc.2.2 hp) bU;unfold execOp;rw [ho];simp only;refine dG ?_;rw [kr,aky yJ hfi hi hc.2.1,kF]
structure SX where
 r:Nat
 sk:Sk
 c:Nat
 S:List Nat
 e:List CT
 t:Nat
def slX (g:Nat->TT):iL->ah SX
 | .tmp t=>match g t with
  | .val false [.sl (.own _) e]=>some ⟨t,[],0,[t],e,t⟩
  | .val false [.sl (.ro S) e]=>some ⟨t,[],0,S,e,t⟩
  | .alias false [.sl (.ro S0) e] r sk off S=>if S0.all (S.contains ·) then some ⟨r,sk,off,S,e,t⟩ else none
  | _=>none
 | _=>none
def uX (t:Nat) (s:Nat->AV):ah (aa (aa A) × aa Nat):=
 match s t with
 | .v [.s xs] is=>some (xs,is)
 | _=>none
def toN:aj->ah Nat
 | .int _ n=>if 0<=n then some n.toNat else none
 | _=>none
def Kn (X:SX) (I:DX) (s:Nat->AV):ah (aa AV):=
 match uX X.t s,I.get s with
 | some (xs,is),some v=>match toN v with
  | some i=>if i<xs.length then some [.p (is++[i])] else none
  | none=>none
 | _,_=>none
def VQ (P:aS) (N:Nat) (g:Nat->TT) (o:bP):ah Stp:=
 match o.dst,o.op with
 | some d,.indexAddr st x ix=>match slX g x,nR g ix,P.underlying st with
  | some X,some I,some (.slice et)=>match P.info? et with
   | some i=>if d<N/\X.r≠d/\i.size=X.e.length then some (Stp.set d (.ptr X.r (X.sk++[(X.c,X.e.length)]) 0 X.S) (X.t::I.rd) (.det (Kn X I))) else none
   | none=>none
  | _,_,_=>none
 | _,_=>none
section
variable {P:aS} {ac:Nat->Nat->aj} {κ0 κ:aQ} {w0 w:aA} {N:Nat} {tg g:Nat->TT} {sv s:Nat->AV} {a:Act}
theorem az8 (h:R ac κ0 w0 κ w N tg sv (gm a)) (hL:Le g s tg sv) {x:iL} {X:SX} (hx:slX g x=some X) {xs:aa (aa A)} {is:aa Nat} (hg:uX X.t s=some (xs,is)) {i:Nat} (hi:i<xs.length) (n:Nat) :
  ∃b o cap,a.eval x = .slice (some ⟨b,o,none⟩) xs.length cap/\I9 κ w tg (gm a) X.r (X.sk++[(X.c,n)]) (is++[i]) X.S b (o+i*n):=by
 cases x with
 | tmp t=>
  have kr:a.eval (.tmp t)=gm a t:=rfl;have hgs:∀t,uX t s=some (xs,is)->s t = .v [.s xs] is:=fun t ht=>by
   unfold uX at ht;split at ht
   ·rename_i xs' is' hs;cases ht;exact hs
   ·cases ht
  simp only [slX] at hx;split at hx
  ·rename_i k e hT;cases hx;obtain ⟨e1,e2⟩:=hL.at hT (by simp);have hs:=hgs t hg;have h1:=h.tr t;rw [e1] at h1;simp only [TR] at h1;obtain ⟨as,vs,g1,_⟩:=h1;rw [e2,hs] at g1;cases g1;rw [kr];exact h.pla_val e1 (.inr ⟨⟨_,rfl⟩,by simp⟩) (by rw [e2,hs]) hi n
  ·rename_i S e hT;cases hx;obtain ⟨e1,e2⟩:=hL.at hT (by simp);have hs:=hgs t hg;have h1:=h.tr t;rw [e1] at h1;simp only [TR] at h1;obtain ⟨as,vs,g1,_⟩:=h1;rw [e2,hs] at g1;cases g1;rw [kr];exact h.pla_val e1 (.inl ⟨_,rfl,fun r hr=>hr⟩) (by rw [e2,hs]) hi n
  ·rename_i S0 e r sk off S hT;split at hx;case isFalse=>cases hx
   case isTrue hS=>
   cases hx;obtain ⟨e1,e2⟩:=hL.at hT (by simp);have hs:=hgs t hg;rw [kr];exact h.pla_alias e1 (fun r hr=>by simpa using (bW.1 hS) r hr) (by rw [e2,hs]) hi n
  ·cases hx
 | _=>simp [slX] at hx
end
theorem VR {v:aj} {n:Nat} (h:toN v=some n):∃k m,v = .int k m/\0<=m/\n=m.toNat:=by
 unfold toN at h;split at h
 ·split at h
  ·cases h;exact ⟨_,_,rfl,by assumption,rfl⟩
  ·cases h
 ·cases h
theorem akC {P:aS} {N:Nat} {g:Nat->TT} {o:bP} {S:Stp} (h:VQ P N g o=some S):ek P N o g S:=by
 unfold VQ at h;split at h;case h_2=>cases h
 case h_1 d st x ix hd ho=>
 split at h;case h_2=>cases h
 case h_1 X I et hX hI gP=>
 split at h;case h_2=>cases h
 case h_1 i hi=>
 split at h;case isFalse=>cases h
 case isTrue hc=>
 obtain ⟨hdN,hr,dF⟩:=hc;cases h;intro ac κ0 κ w0 w tg sv s a v next Q hN hR hL hv bU;simp only [Stp.set,Eff.rel,Kn] at hv;split at hv;case h_2=>cases hv
 case h_1 xs is vi hS hv'=>
 split at hv;case h_2=>cases hv
 case h_1 n hn=>
 split at hv;case isFalse=>cases hv
 case isTrue bR=>
 cases hv;obtain ⟨k,m,rfl,hm0,rfl⟩:=VR hn;obtain ⟨e1,_⟩:=uW hR hL hI hv';obtain ⟨b,oo,cap,kr,hp⟩:=az8 hR hL hX hS bR X.e.length;refine iU hd hN hdN (w':=w) (x:=.pointer (some ⟨b,(oo+m.toNat*X.e.length)+0,none⟩)) ?_ (agA hR hdN hr hp) bU;unfold execOp;rw [ho];simp only;refine dG ?_;rw [kr,e1,run_indexAt gP hi hm0 (by omega),dF,pY]
theorem yT {ag:Bool} {x:aj} {vs:aa aj} (h:cellsOf ag x=some vs):x.cells.toList=vs:=by
 unfold cellsOf at h;split at h
 ·cases h;rfl
 ·cases h
 ·cases h
 ·cases h
 ·cases h;rename_i h1 h2;cases x<;>first
   | rfl
   | (exact absurd rfl (h1 _))
def dN (X:OX):aa Nat:=if X.own then [X.t] else []
def abJ (X:OX) (s:Nat->AV):ah (aa AV):=(X.get s).map fun as=>[.v as []]
def X0 (P:aS) (N:Nat) (g:Nat->TT) (o:bP):ah Stp:=
 match o.dst,o.op with
 | some d,.box t x=>match rM P g t 0 x with
  | some X=>if d<N/\CT.mens (dN X) X.cs=false then some (Stp.mv d (dN X) (.box X.cs) X.rd (.det (abJ X))) else none
  | none=>none
 | some d,.alloc t=>match P.info? t with
  | some i=>match i.zero with
   | some z=>match rM P g t d (.const z) with
    | some X=>if d<N/\CT.mens (dN X) X.cs=false then some (Stp.mv d (dN X) (.box X.cs) X.rd (.det (abJ X))) else none
    | none=>none
   | none=>none
  | none=>none
 | _,_=>none
theorem Ja {P:aS} {ac:Nat->Nat->aj} {κ0 κ:aQ} {w0 w:aA} {N:Nat} {tg g:Nat->TT} {sv s:Nat->AV} {a:Act} (h:R ac κ0 w0 κ w N tg sv (gm a)) (hL:Le g s tg sv) {ty:TypeId} {dummy:Nat} {x:iL} {X:OX}
  (hx:rM P g ty dummy x=some X) {as:aa A} (hg:X.get s=some as) {srcs:aa Nat} (hs:X.own=true->X.t∈srcs) (hm:CT.mens srcs X.cs=false) :
  ∃vs,cellsOf X.ag (a.eval x)=some vs/\Part κ w srcs X.t X.cs vs as/\rF ac X.cs (fun k=>vs.getD k undef):=by
 obtain ⟨vs,h1,h2,h3,h4,h5,h6⟩:=rO h hL hx hg;refine ⟨vs,h1,⟨h3,h2,?_,hm⟩,h6⟩;cases ho:X.own with
 | true=>exact .inl (hs ho)
 | false=>exact .inr (h4 ho)
theorem arK {P:aS} {N:Nat} {g:Nat->TT} {o:bP} {S:Stp} (h:X0 P N g o=some S):ek P N o g S:=by
 have fbs:∀{x:iL} {t:TypeId} {dm:Nat} {X:OX},rM P g t dm x=some X->∀(ac:Nat->Nat->aj) (κ0 κ:aQ) (w0 w:aA) (tg:Nat->TT) (sv s:Nat->AV) (a:Act) (as:aa A),R ac κ0 w0 κ w N tg sv (gm a)->Le g s tg sv->X.get s=some as->FB∉dN X:=by
  intro x t dm X hX ac κ0 κ w0 w tg sv s a as hR hL hg;obtain ⟨_,_,_,_,_,h5,_⟩:=rO hR hL hX hg;unfold dN;split
  ·simpa using fun he=>h5 he.symm
  ·simp
 have main:∀{x:iL} {t:TypeId} {dm:Nat} {X:OX} {d:Nat},o.dst=some d->rM P g t dm x=some X->d<N->CT.mens (dN X) X.cs=false ->
   (∀(a:Act) (w:aA),(execOp a.eval o).run P w = .ok (.value (.pointer (some ⟨w.heap.size,0,none⟩))) (fI w (a.eval x).cells t))->ek P N o g (Stp.mv d (dN X) (.box X.cs) X.rd (.det (abJ X))):=by
  intro x t dm X d hd hX hdN hm eO ac κ0 κ w0 w tg sv s a v next Q hN hR hL hv bU;simp only [Stp.mv,Eff.rel,abJ,dh] at hv;obtain ⟨as,hg,rfl⟩:=hv;obtain ⟨vs,h1,h2,h3⟩:=Ja hR hL hX hg (srcs:=dN X) (fun ho=>by simp [dN,ho]) hm;exact wN hd hN hdN (eO a w) (aCZ hR hdN (fbs hX _ _ _ _ _ _ _ _ _ _ hR hL hg) h2 h3 (yT h1) t) bU
 unfold X0 at h;split at h
 ·rename_i d t x hd ho;split at h;case h_2=>cases h
  case h_1 X hX=>
  split at h;case isFalse=>cases h
  case isTrue hc=>
  cases h;refine main hd hX hc.1 hc.2 fun a w => ?_
  unfold execOp;rw [ho];simp only;exact dG (ayJ t _ w)
 ·rename_i d t hd ho;split at h;case h_2=>cases h
  case h_1 i hi=>
  split at h;case h_2=>cases h
  case h_1 z hz=>
  split at h;case h_2=>cases h
  case h_1 X hX=>
  split at h;case isFalse=>cases h
  case isTrue hc=>
  cases h;refine main hd hX hc.1 hc.2 fun a w => ?_
  unfold execOp;rw [ho];simp only;exact dG (arz hi hz w)
 ·cases h
end Go.Fw
namespace Go.Fw
theorem VS {κ:aQ} {w:aA} {p:Pl} {get:Nat->aj}:∀{cs:aa CT} {j:Nat} {as:aa A},qD cs=true->aB κ w cs p j get as ->
  as=((List.range cs.length).map fun k=>get (j+k)).map .v/\∀k,k<cs.length->sc (get (j+k))=true
 | [],_,[],_,_=>by simp
 | [],_,_::_,_,h=>by simp [aB] at h
 | _::_,_,[],_,h=>by simp [aB] at h
 | c::cs,j,a::as,hd,h=>by
  simp only [qD,Kh,aU] at hd;cases c with
  | sl m e=>simp at hd
  | d=>
   cases a with
   | s xs=>simp [aB,RC] at h
   | v y=>
    simp only [aB,RC] at h;have ih:=VS (j:=j+1) (by simpa [qD] using hd.2) h.2;obtain ⟨⟨h1,h2⟩,_⟩:=h;subst h1;refine ⟨?_,fun k hk => ?_⟩
    ·rw [bF,List.range_succ_eq_map];simp only [bv,Av,pY];congr 1;conv=>lhs;rw [ih.1]
     simp only [Av];apply Rl;intro k hk;simp only [Function.comp];rw [show j+1+k=j+(k+1) from by omega]
    ·cases k with
     | zero=>simpa using h2
     | succ k=>
      have:=ih.2 k (by simpa using hk);rw [show j+(k+1)=j+1+k from by omega];exact this
theorem ayR {x:aj} (h:sc x=true):rG x=true:=by cases x<;>simp_all [sc,rG]
theorem VT {κ:aQ} {w:aA} {p:Pl} {get:Nat->aj} {cs:aa CT} {j:Nat} {as:aa A} (hl:CT.lives cs=true) (h:aB κ w cs p j get as) (k:Nat) (hk:k<cs.length):rG (get (j+k))=true:=by
 have ha:k<as.length:=by rw [dJ h];exact hk
 exact I_ (rH hl (aR hk)) (ib h (aR hk) (aR ha))
theorem agE {vs:aa aj} {cs:aa CT} (hl:vs.length=cs.length) (h:∀k,k<cs.length->rG (vs.getD k undef)=true):vs.all rG=true:=by
 rw [bW];intro x hx;obtain ⟨k,hk,rfl⟩:=zW hx;have:=h k (by omega);simpa [dw,aR hk] using this
def rP (X:PX) (V:OX) (s:Nat->AV):ah (aa AV):=
 match X.idx s,iO X.r s,V.get s with
 | some is,some ra,some as=>match bZ ra X.sk is with
  | some row=>some [.v (lN ra X.sk is (splice row X.off as)) []]
  | none=>none
 | _,_,_=>none
def VU (P:aS) (N:Nat) (g:Nat->TT) (o:bP):ah Stp:=
 match o.dst,o.op with
 | none,.store t p x=>match plX g p,rM P g t 0 x,P.info? t with
  | some X,some V,some i=>match (g X.r).cts with
   | some cs=>match iq true cs X.sk with
    | some e=>
     if X.r<N/\V.cs.length=i.size/\X.off+V.cs.length<=e.length/\CT.lives V.cs=true then
      if qD ((e.drop X.off).take V.cs.length)=true/\qD V.cs=true then
       if CT.mens [X.r] cs=false then some ⟨[(X.r,g X.r)],fun T=>T.killD X.r (if X.sk=[] then [] else [X.r]),X.r::(X.rd++V.rd),.det (rP X V)⟩ else none
      else match X.sk,g X.r with
       | [],.box cr=>if X.r∉dN V/\CT.mens (dN V) cr=false/\CT.mens (dN V) V.cs=false/\iD V.cs=true then
         some ⟨(X.r,.box (splice cr X.off V.cs))::(dN V).map (fun t=>(t,.dead)),fun T=>T.killS X.r (X.r::dN V) (dN V),X.r::(X.rd++V.rd),.det (rP X V)⟩ else none
       | _,_=>none
     else none
    | none=>none
   | none=>none
  | _,_,_=>none
 | _,_=>none
theorem Ko (a:Act) (x:aj):a.put none x=a:=rfl
theorem akD {P:aS} {N:Nat} {g:Nat->TT} {o:bP} {S:Stp} (h:VU P N g o=some S):ek P N o g S:=by
 unfold VU at h;split at h;case h_2=>cases h
 case h_1 t p x hd ho=>
 split at h;case h_2=>cases h
 case h_1 X V i hX hV hi=>
 split at h;case h_2=>cases h
 case h_1 cs qi=>
 split at h;case h_2=>cases h
 case h_1 e he=>
 split at h;case isFalse=>cases h
 case isTrue hc=>
 obtain ⟨yf,dF,yj,lJ⟩:=hc;split at h
 ·rename_i hD;split at h;case isFalse=>cases h
  case isTrue hm=>
  cases h;intro ac κ0 κ w0 w tg sv s a v next Q hN hR hL hv bU;simp only [Eff.rel,rP] at hv;split at hv;case h_2=>cases hv
  case h_1 is ra as Mw J4 jU=>
  split at hv;case h_2=>cases hv
  case h_1 row cB=>
  cases hv;obtain ⟨B,O,hp,kr⟩:=NH hR hL hX Mw;obtain ⟨sG,jB⟩:=AB hL qi;obtain ⟨ra',yh⟩:=hR.sv_root sG;obtain ⟨is',g_⟩:=cO J4;rw [jB,g_] at yh;cases yh;have om:sv X.r = .v ra []:=by rw [jB,g_]
  obtain ⟨vs,h1,h2,h3,_⟩:=rO hR hL hV jU;obtain ⟨awK,uD⟩:=VS hD.2 h3;simp only [dE] at awK uD;have mq:(List.range V.cs.length).map (fun k=>vs.getD k undef)=vs:=by
   apply XJ
   ·simp [h2]
   ·intro k hk nY;simp [dw,aR nY]
  rw [mq] at awK;have Fq:vs.all sc=true:=by
   rw [bW];intro y hy;obtain ⟨k,hk,rfl⟩:=zW hy;have:=uD k (by omega);simpa [dw,aR hk] using this
  have key:=avu hR yf sG om hp he cB (off:=X.off) (ys:=vs) (by omega) (by rw [h2];exact hD.1) Fq hm rfl;have aX:g X.r≠.dead:=fun hg=>by rw [hg] at qi;simp [TT.cts] at qi
  obtain ⟨e1,e2⟩:=hL.at rfl aX;refine VO (w':=bM w B (O+X.off) vs) ?_ (bU undef _ κ (upd (fun t=>(tg t).killD X.r (if X.sk=[] then [] else [X.r])) X.r (tg X.r)) (upd sv X.r (.v (lN ra X.sk is (splice row X.off as)) [])) ?_ (fun u => ?_) (fun u => ?_))
  ·unfold execOp;rw [ho];simp only;have lH:=yT h1;have:=Hq (P:=P) (t:=t) (i:=i) (b:=B) (o:=O+X.off) (v:=a.eval x) (w:=w) hi (by rw [<-XC,lH,h2,dF]) (by rw [lH];rw [bW] at Fq ⊢;exact fun y hy=>ayR (Fq y hy)) (by rw [<-dF,<-h2];exact key.1);rw [kr,aI this,lH];rfl
  ·rw [hd,Ko,awK];exact key.2
  ·show _=aG _ [(X.r,g X.r)] u;rw [Dm,e1]
  ·show _=aG sv [(X.r,_)] u;rw [Dm]
 ·split at h;case h_2=>cases h
  case h_1 cr oQ Mx=>
  split at h;case isFalse=>cases h
  case isTrue hc=>
  obtain ⟨lh,hmr,hmv,ji⟩:=hc;cases h;intro ac κ0 κ w0 w tg sv s a v next Q hN hR hL hv bU;simp only [Eff.rel,rP] at hv;split at hv;case h_2=>cases hv
  case h_1 is ra as Mw J4 jU=>
  split at hv;case h_2=>cases hv
  case h_1 row cB=>
  cases hv;obtain ⟨B,O,hp,kr⟩:=NH hR hL hX Mw;obtain ⟨sG,jB⟩:=AB hL qi;obtain ⟨ra',yh⟩:=hR.sv_root sG;obtain ⟨is',g_⟩:=cO J4;rw [jB,g_] at yh;cases yh;have om:sv X.r = .v ra []:=by rw [jB,g_]
  obtain ⟨vs,h1,h2,h3⟩:=Ja hR hL hV jU (srcs:=dN V) (fun ho=>by simp [dN,ho]) hmv;obtain ⟨_,_,_,_,_,qg,_⟩:=rO hR hL hV jU;obtain ⟨e1,e2⟩:=hL.at Mx (by simp);have qj:cs=cr:=by rw [Mx] at qi;simpa [TT.cts] using qi.symm
  subst qj;rw [oQ] at he cB;simp only [iq,aN] at he;subst he;have aFh:is=[]/\row=ra:=by
   cases is with
   | nil=>simp only [bZ,aN] at cB;exact ⟨rfl,cB.symm⟩
   | cons=>simp [bZ] at cB
  obtain ⟨rfl,rfl⟩:=aFh;obtain ⟨B',hB',hwr,jk⟩:=avv hR yf e1 om (srcs:=dN V) (by unfold dN;split<;>simp;exact fun he=>qg he.symm) lh h2 yj hmr ji;have ara:=hp.addr;rw [oQ,e1,hB'] at ara;simp only [iA,rb,dx,wk,aN,di] at ara;obtain ⟨rfl,rfl⟩:=ara;refine VO (w':=bM w B' X.off vs) ?_ (bU undef _ _ _ (upd sv X.r (.v (lN row X.sk [] (splice row X.off as)) [])) (by rw [hd,Ko,oQ];exact jk) (fun u => ?_) (fun u => ?_))
  ·unfold execOp;rw [ho];simp only;have lH:=yT h1;have bN:=h2.len;have Cc:=agE bN fun k hk=>by
    have:=VT lJ h2.row k hk;simpa using this
   have:=Hq (P:=P) (t:=t) (i:=i) (b:=B') (o:=X.off) (v:=a.eval x) (w:=w) hi (by rw [<-XC,lH,bN,dF]) (by rw [lH];exact Cc) (by rw [<-dF,<-bN];exact hwr);rw [kr];simp only [dE];rw [aI this,lH];rfl
  ·show _=aG _ ((X.r,TT.box (splice cs X.off V.cs))::(dN V).map fun t=>(t,TT.dead)) u;simp only [aG,upd,NG]
  ·show _=aG sv ((((X.r,TT.box (splice cs X.off V.cs))::(dN V).map fun t=>(t,TT.dead)).map (·.1)).zip [_]) u;simp [aG,upd]
end Go.Fw
namespace Go.Fw
def aoI (g:Nat->TT):iL->ah Nat
 | .tmp t=>match g t with
  | .val false [.sl (.own _) _]=>some t
  | .val false [.sl (.ro _) _]=>some t
  | .alias false [.sl (.ro _) _] _ _ _ _=>some t
  | _=>none
 | _=>none
theorem Jb {κ:aQ} {w:aA} {m:Md} {e:aa CT} {p:Pl} {x:aj} {xs:aa (aa A)} (hm:m≠.dead) (h:RC κ w (.sl m e) p x (.s xs)):∃ao cap,x = .slice ao xs.length cap:=by
 cases m with
 | own k=>simp only [RC] at h;obtain ⟨ao,cap,h,_⟩:=h;exact ⟨ao,cap,h⟩
 | ro S=>simp only [RC] at h;obtain ⟨ao,cap,h,_⟩:=h;exact ⟨ao,cap,h⟩
 | dead=>exact absurd rfl hm
theorem vS {t:Nat} {s:Nat->AV} {xs:aa (aa A)} {is:aa Nat} (h:uX t s=some (xs,is)):s t = .v [.s xs] is:=by
 unfold uX at h;split at h
 ·rename_i xs' is' hs;cases h;exact hs
 ·cases h
theorem ayS {ac:Nat->Nat->aj} {κ0 κ:aQ} {w0 w:aA} {N:Nat} {tg g:Nat->TT} {sv s:Nat->AV} {a:Act} (h:R ac κ0 w0 κ w N tg sv (gm a)) (hL:Le g s tg sv) {x:iL} {t:Nat}
  (hx:aoI g x=some t) {xs:aa (aa A)} {is:aa Nat} (hg:uX t s=some (xs,is)):∃ao cap,a.eval x = .slice ao xs.length cap:=by
 cases x with
 | tmp u=>
  have hs:=vS hg;have kr:a.eval (.tmp u)=gm a u:=rfl;have mq:∀{x:aj} {vs:aa aj},cellsOf false x=some vs->vs=[x]:=fun {x vs} h=>by
   cases x<;>simp [cellsOf] at h<;>exact h.symm
  rw [kr];simp only [aoI] at hx;split at hx
  ·rename_i k e hT;cases hx;obtain ⟨e1,e2⟩:=hL.at hT (by simp);have h1:=h.tr t;rw [e1] at h1;simp only [TR] at h1;obtain ⟨as,vs,g1,g2,g3,_,g5⟩:=h1;rw [e2,hs] at g1;cases g1;have:=mq g2;subst this;simp only [aB] at g5;exact Jb (by simp) g5.1
  ·rename_i S e hT;cases hx;obtain ⟨e1,e2⟩:=hL.at hT (by simp);have h1:=h.tr t;rw [e1] at h1;simp only [TR] at h1;obtain ⟨as,vs,g1,g2,g3,_,g5⟩:=h1;rw [e2,hs] at g1;cases g1;have:=mq g2;subst this;simp only [aB] at g5;exact Jb (by simp) g5.1
  ·rename_i S e r sk off S' hT;cases hx;obtain ⟨e1,e2⟩:=hL.at hT (by simp);have h1:=h.tr t;rw [e1] at h1;simp only [TR] at h1;obtain ⟨as,is',vs,_,_,_,g1,g2,g3,_,g5,_⟩:=h1;rw [e2,hs] at g1;cases g1;have:=mq g2;subst this;simp only [aB] at g5;exact Jb (by simp) g5.1
  ·cases hx
 | _=>simp [aoI] at hx
def X3 (t:Nat) (s:Nat->AV):ah (aa AV):=
 match uX t s with
 | some (xs,_)=>some [.v [.v (.int .i64 xs.length)] []]
 | none=>none
def agF (P:aS) (N:Nat) (g:Nat->TT) (o:bP):ah Stp:=
 match o.dst,o.op with
 | some d,.call c=>match c.callee,c.args.toList,c.argTypes.toList with
  | .builtin .len,[x],[ty]=>match P.underlying ty,aoI g x with
   | some (.slice _),some t=>if d<N then some (Stp.set d (.val false [.d]) [t] (.det (X3 t))) else none
   | _,_=>none
  | _,_,_=>none
 | _,_=>none
theorem arL {P:aS} {N:Nat} {g:Nat->TT} {o:bP} {S:Stp} (h:agF P N g o=some S):ek P N o g S:=by
 unfold agF at h;split at h;case h_2=>cases h
 case h_1 d c hd ho=>
 obtain ⟨callee,⟨args⟩,⟨ats⟩⟩:=c;simp only at h;split at h;case h_2=>cases h
 case h_1 _ _ _ x ty=>
 split at h;case h_2=>cases h
 case h_1 et t hty hx=>
 split at h;case isFalse=>cases h
 case isTrue hdN=>
 cases h;intro ac κ0 κ w0 w tg sv s a v next Q hN hR hL hv bU;simp only [Stp.set,Eff.rel,X3] at hv;split at hv;case h_2=>cases hv
 case h_1 xs is hs=>
 cases hv;obtain ⟨ao,cap,kr⟩:=ayS hR hL hx hs;obtain ⟨cs,pu⟩:=Dl (ρ:=a.eval) ho;refine iU hd hN hdN (w':=w) (x:=.int .i64 xs.length) ?_ (XQ hR hdN rfl (Grows.refl w)) bU;rw [pu];refine dG ?_;unfold Builtin.len_;simp only [XK,bv,bI,sI,J9,kr];rw [aI (run_underlying hty w)];rfl
mutual
def CT.beq:CT->CT->Bool
 | .d,.d=>true
 | .sl m e,.sl m' e'=>decide (m=m')&&CT.beqs e e'
 | _,_=>false
def CT.beqs:aa CT->aa CT->Bool
 | [],[]=>true
 | c::cs,c'::cs'=>c.beq c'&&CT.beqs cs cs'
 | _,_=>false
end
mutual
theorem CT.beq_eq:∀{c c':CT},c.beq c'=true->c=c'
 | .d,.d,_=>rfl
 | .sl m e,.sl m' e',h=>by
  simp only [CT.beq,aU,decide_eq_true_eq] at h;rw [h.1,CT.beqs_eq h.2]
 | .d,.sl _ _,h=>by simp [CT.beq] at h
 | .sl _ _,.d,h=>by simp [CT.beq] at h
theorem CT.beqs_eq:∀{cs cs':aa CT},CT.beqs cs cs'=true->cs=cs'
 | [],[],_=>rfl
 | c::cs,c'::cs',h=>by
  simp only [CT.beqs,aU] at h;rw [CT.beq_eq h.1,CT.beqs_eq h.2]
 | [],_::_,h=>by simp [CT.beqs] at h
 | _::_,[],h=>by simp [CT.beqs] at h
end
mutual
def CT.le:CT->CT->Bool
 | .d,.d=>true
 | .sl m e,.sl m' e'=>match m,m' with
  | _,.dead=>true
  | .own p,.own p'=>(decide (p'=none) || decide (p=p'))&&CT.les e e'
  | .ro S,.ro S'=>S.all (S'.contains ·)&&CT.les e e'
  | _,_=>false
 | _,_=>false
def CT.les:aa CT->aa CT->Bool
 | [],[]=>true
 | c::cs,c'::cs'=>c.le c'&&CT.les cs cs'
 | _,_=>false
end
theorem jM:∀{cs cs':aa CT},CT.les cs cs'=true->cs.length=cs'.length
 | [],[],_=>rfl
 | c::cs,c'::cs',h=>by
  simp only [CT.les,aU] at h;simp [jM h.2]
 | [],_::_,h=>by simp [CT.les] at h
 | _::_,[],h=>by simp [CT.les] at h
mutual
theorem aw1 {κ:aQ} {w:aA}:∀{c c':CT} {p:Pl} {x:aj} {a:A},c.le c'=true->RC κ w c p x a->RC κ w c' p x a
 | .d,.d,_,_,_,_,h=>h
 | .sl m e,.sl .dead e',_,_,.s _,_,h=>by simp [RC]
 | .sl m e,.sl .dead e',_,_,.v _,_,h=>by simp [RC]
 | .sl (.own k) e,.sl (.own k') e',p,x,.s xs,hl,h=>by
  simp only [CT.le,aU] at hl;simp only [RC] at h ⊢;obtain ⟨ao,cap,hx,cZ,hc⟩:=h;refine ⟨ao,cap,hx,cZ,?_⟩;rcases hc with h0|⟨b,o,h1,h2,h3,h4,h5⟩
  ·exact .inl h0
  ·exact .inr ⟨b,o,h1,h2,h3,by rw [<-jM hl.2];exact h4,X4 hl.2 h5⟩
 | .sl (.ro S) e,.sl (.ro S') e',p,x,.s xs,hl,h=>by
  simp only [CT.le,aU,bW] at hl;simp only [RC] at h ⊢;obtain ⟨ao,cap,hx,cZ,hc⟩:=h;refine ⟨ao,cap,hx,cZ,?_⟩;rcases hc with h0|⟨b,o,h1,h2,h3,h4⟩
  ·exact .inl h0
  ·exact .inr ⟨b,o,h1,⟨h2.1,fun r q hb=>⟨by simpa using hl.1 r (h2.2 r q hb).1,(h2.2 r q hb).2⟩⟩,by rw [<-jM hl.2];exact h3,X4 hl.2 h4⟩
 | .sl .dead e,.sl (.own _) e',_,_,_,hl,_=>by simp [CT.le] at hl
 | .sl .dead e,.sl (.ro _) e',_,_,_,hl,_=>by simp [CT.le] at hl
 | .sl (.own _) e,.sl (.ro _) e',_,_,_,hl,_=>by simp [CT.le] at hl
 | .sl (.ro _) e,.sl (.own _) e',_,_,_,hl,_=>by simp [CT.le] at hl
 | .sl (.own _) e,.sl (.own _) e',_,_,.v _,_,h=>by simp [RC] at h
 | .sl (.ro _) e,.sl (.ro _) e',_,_,.v _,_,h=>by simp [RC] at h
 | .d,.sl _ _,_,_,_,hl,_=>by simp [CT.le] at hl
 | .sl _ _,.d,_,_,_,hl,_=>by simp [CT.le] at hl
theorem wP {κ:aQ} {w:aA}:∀{cs cs':aa CT} {p:Pl} {j:Nat} {get:Nat->aj} {as:aa A},CT.les cs cs'=true->aB κ w cs p j get as->aB κ w cs' p j get as
 | [],[],_,_,_,[],_,_=>by simp [aB]
 | c::cs,c'::cs',p,j,get,a::as,hl,h=>by
  simp only [CT.les,aU] at hl;simp only [aB] at h ⊢;exact ⟨aw1 hl.1 h.1,wP hl.2 h.2⟩
 | [],_::_,_,_,_,_,hl,_=>by simp [CT.les] at hl
 | _::_,[],_,_,_,_,hl,_=>by simp [CT.les] at hl
 | [],[],_,_,_,_::_,_,h=>by simp [aB] at h
 | _::_,_::_,_,_,_,[],_,h=>by simp [aB] at h
theorem X4 {κ:aQ} {w:aA}:∀{e e':aa CT} {p:Pl} {j:Nat} {get:Nat->aj} {xs:aa (aa A)},CT.les e e'=true->dz κ w e p j get xs->dz κ w e' p j get xs
 | _,_,_,_,_,[],_,_=>by simp [dz]
 | e,e',p,j,get,x::xs,hl,h=>by
  simp only [dz] at h ⊢;rw [<-jM hl];exact ⟨wP hl h.1,X4 hl h.2⟩
end
end Go.Fw
namespace Go.Fw
theorem abK {κ:aQ} {w:aA} {m:Md} {e:aa CT} {p:Pl} {x:aj} {ys:aa (aa A)} (hm:m≠.dead) (h:RC κ w (.sl m e) p x (.s ys)) :
  ∃ao cap,x = .slice ao ys.length cap/\(ys=[]\/∃b o,ao=some ⟨b,o,none⟩/\Rdb w b o (o+ys.length*e.length)/\dz κ w e p 0 (fun j=>cellD w b (o+j)) ys):=by
 cases m with
 | dead=>exact absurd rfl hm
 | own k=>
  simp only [RC] at h;obtain ⟨ao,cap,h1,cZ,hc⟩:=h;refine ⟨ao,cap,h1,?_⟩;rcases hc with ⟨rfl,rfl⟩|⟨b,o,rfl,_,_,hw,he⟩
  ·exact .inl (qL.1 (by omega))
  ·have:=jE e.length cZ;exact .inr ⟨b,o,rfl,fun q h1 h2=>(hw q h1 (by omega)).1,he⟩
 | ro S=>
  simp only [RC] at h;obtain ⟨ao,cap,h1,cZ,hc⟩:=h;refine ⟨ao,cap,h1,?_⟩;rcases hc with h0|⟨b,o,rfl,_,hr,he⟩
  ·exact .inl h0
  ·exact .inr ⟨b,o,rfl,hr,he⟩
def aoJ (g:Nat->TT):iL->ah (Nat × aa CT)
 | .tmp t=>match g t with
  | .val false [.sl (.own _) e]=>some (t,e)
  | .val false [.sl (.ro _) e]=>some (t,e)
  | .alias false [.sl (.ro _) e] _ _ _ _=>some (t,e)
  | _=>none
 | _=>none
theorem jW {x:aj} {vs:aa aj} (h:cellsOf false x=some vs):vs=[x]:=by
 cases x<;>simp [cellsOf] at h<;>exact h.symm
section
variable {ac:Nat->Nat->aj} {κ0 κ:aQ} {w0 w:aA} {N:Nat} {tg g:Nat->TT} {sv s:Nat->AV} {a:Act}
theorem ayT (h:R ac κ0 w0 κ w N tg sv (gm a)) (hL:Le g s tg sv) {x:iL} {t:Nat} {e:aa CT} (hx:aoJ g x=some (t,e)) {ys:aa (aa A)} {is:aa Nat} (hg:uX t s=some (ys,is)) :
  t<N/\∃ao cap,a.eval x = .slice ao ys.length cap/\(ys=[]\/∃b o,ao=some ⟨b,o,none⟩/\Rdb w b o (o+ys.length*e.length)/\dz κ w e (t,[0]) 0 (fun j=>cellD w b (o+j)) ys):=by
 cases x with
 | tmp u=>
  have hs:=vS hg;have kr:a.eval (.tmp u)=gm a u:=rfl;have bR:tg u≠.dead->u<N:=fun ht=>by
   apply sM;intro cZ;exact ht (h.out u cZ)
  rw [kr];simp only [aoJ] at hx;split at hx
  ·rename_i k e hT;cases hx;obtain ⟨e1,e2⟩:=hL.at hT (by simp);have h1:=h.tr t;rw [e1] at h1;simp only [TR] at h1;obtain ⟨as,vs,g1,g2,g3,_,g5⟩:=h1;rw [e2,hs] at g1;cases g1;have:=jW g2;subst this;simp only [aB] at g5;exact ⟨bR (by simp [e1]),abK (by simp) g5.1⟩
  ·rename_i S e hT;cases hx;obtain ⟨e1,e2⟩:=hL.at hT (by simp);have h1:=h.tr t;rw [e1] at h1;simp only [TR] at h1;obtain ⟨as,vs,g1,g2,g3,_,g5⟩:=h1;rw [e2,hs] at g1;cases g1;have:=jW g2;subst this;simp only [aB] at g5;exact ⟨bR (by simp [e1]),abK (by simp) g5.1⟩
  ·rename_i S e r sk off S' hT;cases hx;obtain ⟨e1,e2⟩:=hL.at hT (by simp);have h1:=h.tr t;rw [e1] at h1;simp only [TR] at h1;obtain ⟨as,is',vs,_,_,_,g1,g2,g3,_,g5,_⟩:=h1;rw [e2,hs] at g1;cases g1;have:=jW g2;subst this;simp only [aB] at g5;exact ⟨bR (by simp [e1]),abK (by simp) g5.1⟩
  ·cases hx
 | _=>simp [aoJ] at hx
end
inductive HX where
 | nil
 | t (i:Nat) (e:List CT)
def aoK (g:Nat->TT):iL->ah HX
 | .const (.slice none 0 0)=>some .nil
 | .tmp t=>match g t with
  | .val false [.sl (.own _) e]=>some (.t t e)
  | _=>none
 | _=>none
def HX.tx:HX->ah Nat
 | .nil=>none
 | .t i _=>some i
def HX.e (e':aa CT):HX->aa CT
 | .nil=>e'
 | .t _ e=>e
def HX.get (s:Nat->AV):HX->ah (aa (aa A))
 | .nil=>some []
 | .t i _=>(uX i s).map (·.1)
theorem avx {ac:Nat->Nat->aj} {κ0 κ:aQ} {w0 w:aA} {N:Nat} {tg g:Nat->TT} {sv s:Nat->AV} {a:Act} (h:R ac κ0 w0 κ w N tg sv (gm a)) (hL:Le g s tg sv) {x:iL} {X:HX} {e':aa CT} {srcs:aa Nat}
  (hx:aoK g x=some X) (om:∀t,X.tx=some t->t∈srcs) {xs:aa (aa A)} (hg:X.get s=some xs) :
  ∃ao cap,a.eval x = .slice ao xs.length cap/\((X.tx=none/\xs=[]/\ao=none/\cap=0)\/∃x pin,X.tx=some x/\x∈srcs/\RC κ w (.sl (.own pin) (X.e e')) (x,[0]) (.slice ao xs.length cap) (.s xs)):=by
 unfold aoK at hx;split at hx
 ·cases hx;simp only [HX.get,aN] at hg;subst hg;exact ⟨none,0,rfl,.inl ⟨rfl,rfl,rfl,rfl⟩⟩
 ·rename_i t;split at hx
  ·rename_i pin e hT;cases hx;simp only [HX.get,dh] at hg;obtain ⟨⟨xs',is⟩,hg,rfl⟩:=hg;have hs:=vS hg;have kr:a.eval (.tmp t)=gm a t:=rfl;obtain ⟨e1,e2⟩:=hL.at hT (by simp);have h1:=h.tr t;rw [e1] at h1;simp only [TR] at h1;obtain ⟨as,vs,g1,g2,g3,_,g5⟩:=h1;rw [e2,hs] at g1;cases g1;have:=jW g2;subst this;simp only [aB] at g5;obtain ⟨ao,cap,hc⟩:=Jb (by simp) g5.1;refine ⟨ao,cap,by rw [kr];simpa using hc,.inr ⟨t,pin,rfl,om t rfl,?_⟩⟩;have h2:=g5.1;simp only [uG] at h2 hc;rw [hc] at h2;exact h2
  ·cases hx
 ·cases hx
def AC (X:HX) (yt:Nat) (s:Nat->AV):ah (aa AV):=
 match X.get s,uX yt s with
 | some xs,some (ys,_)=>if xs.length+ys.length<=4294967296 then some [.v [.s (xs++ys)] []] else none
 | _,_=>none
def HX.rd:HX->aa Nat
 | .nil=>[]
 | .t i _=>[i]
structure EI where
 e:TypeId
 i:TypeInfo
def X5 (P:aS) (t:TypeId):ah EI:=
 match P.underlying t with
 | some (.slice e)=>match P.info? e with
  | some i=>match i.zero with
   | some z=>if z.cells.size=i.size/\i.bytes<=4096/\0<i.size then some ⟨e,i⟩ else none
   | none=>none
  | none=>none
 | _=>none
theorem VV {P:aS} {t:TypeId} {E:EI} (h:X5 P t=some E):∃z,NC P t E.e E.i z:=by
 unfold X5 at h;split at h;case h_2=>cases h
 case h_1 e he=>
 split at h;case h_2=>cases h
 case h_1 i hi=>
 split at h;case h_2=>cases h
 case h_1 z hz=>
 split at h;case isFalse=>cases h
 case isTrue hc=>
 cases h;exact ⟨z,⟨he,hi,hz,hc.1,hc.2.1,hc.2.2⟩⟩
def NI (X:HX) (yt:Nat) (e:aa CT):aa Nat:=X.tx.toList++(if CT.nowns e then [] else [yt])
mutual
def CT.jn:CT->CT->CT
 | .sl (.ro S) e,.sl (.ro S') e'=>.sl (.ro (S++S'.filter fun x=>!S.contains x)) (CT.jns e e')
 | .sl (.own p) e,.sl (.own p') e'=>.sl (.own (if p=p' then p else none)) (CT.jns e e')
 | c,_=>c
def CT.jns:aa CT->aa CT->aa CT
 | c::cs,c'::cs'=>c.jn c'::CT.jns cs cs'
 | cs,_=>cs
end
def NJ (P:aS) (N:Nat) (g:Nat->TT) (o:bP):ah Stp:=
 match o.dst,o.op with
 | some d,.call c=>match c.callee,c.args.toList,c.argTypes.toList with
  | .builtin .append,[x,y],[t,t2]=>match aoK g x,aoJ g y,X5 P t,P.underlying t2 with
   | some X,some (yt,e'),some E,some (.slice _)=>
    let e:=CT.jns (X.e e') e'
    let srcs:=NI X yt e
    if CT.les (X.e e') e=true/\d<N/\e.length=E.i.size/\CT.les e' e=true/\CT.lives e=true/\CT.mens srcs e=false/\X.tx≠some yt/\FB∉srcs then
     some (Stp.mv d srcs (.val false [.sl (.own none) e]) (yt::X.rd) (.det (AC X yt)))
    else none
   | _,_,_,_=>none
  | _,_,_=>none
 | _,_=>none
theorem agG {P:aS} {N:Nat} {g:Nat->TT} {o:bP} {S:Stp} (h:NJ P N g o=some S):ek P N o g S:=by
 unfold NJ at h;split at h;case h_2=>cases h
 case h_1 d c hd ho=>
 obtain ⟨callee,⟨args⟩,⟨ats⟩⟩:=c;simp only at h;split at h;case h_2=>cases h
 case h_1 _ _ _ x y t t2=>
 split at h;case h_2=>cases h
 case h_1 X yt e' E e2 hX hY hE ht2=>
 split at h;case isFalse=>cases h
 case isTrue hc=>
 obtain ⟨aFi,hdN,J3,cZ,lJ,hm,aX,qh⟩:=hc;generalize hje:CT.jns (X.e e') e'=ej at *
 cases h;intro ac κ0 κ w0 w tg sv s a v next Q hN hR hL hv bU;simp only [Stp.mv,Eff.rel,AC] at hv;split at hv;case h_2=>cases hv
 case h_1 xs ys is Bo hys=>
 split at hv;case isFalse=>cases hv
 case isTrue acL=>
 cases hv;obtain ⟨z,Q8⟩:=VV hE;obtain ⟨ao,cap,kr,hx0⟩:=avx (e':=e') (srcs:=NI X yt ej) hR hL hX (fun t ht=>by simp [NI,ht]) Bo;have hx:(X.tx=none/\xs=[]/\ao=none/\cap=0)\/∃x pin,X.tx=some x/\x∈NI X yt ej/\RC κ w (.sl (.own pin) ej) (x,[0]) (.slice ao xs.length cap) (.s xs):=by
  rcases hx0 with h0|⟨x,pin,h1,h2,h3⟩
  ·exact .inl h0
  ·exact .inr ⟨x,pin,h1,h2,aw1 (by simp [CT.le,aFi]) h3⟩
 obtain ⟨aHU,yo,ycap,aFj,hy⟩:=ayT hR hL hY hys;have ql:ys=[]\/∃b o,yo=some ⟨b,o,none⟩/\Rdb w b o (o+ys.length*ej.length)/\dz κ w ej (yt,[0]) 0 (fun j=>cellD w b (o+j)) ys:=by
  rcases hy with h0|⟨b,o',h1,h2,h3⟩
  ·exact .inl h0
  ·exact .inr ⟨b,o',h1,by rw [<-jM cZ];exact h2,X4 cZ h3⟩
 obtain ⟨κ',w',vv,eO,jk⟩:=avw Q8 ht2 (ty:=o.type) hR hdN qh J3 hx ql (by
  cases eD:CT.nowns ej with
  | true=>exact .inr rfl
  | false=>exact .inl (by simp [NI,eD])) aX hm lJ acL (ycap:=ycap)
 obtain ⟨cs,pu⟩:=Dl (ρ:=a.eval) ho;refine wN hd hN hdN (w':=w') (x:=vv) ?_ jk bU;rw [pu];refine dG ?_;simp only [XK,bv,bI,kr,aFj];exact eO
end Go.Fw
namespace Go.Fw
def spl {α:Type}:aa α->aa (Nat × aa α)->aa α
 | l,[]=>l
 | l,(o,x)::ps=>spl (splice l o x) ps
structure QX where
 off:Nat
 X:OX
def sU (s:Nat->AV):aa QX->ah (aa (aa A))
 | []=>some []
 | q::qs=>match q.X.get s,sU s qs with
  | some as,some r=>some (as::r)
  | _,_=>none
def X6 (qs:aa QX):aa Nat:=qs.map (·.off)
def NK (P:aS) (g:Nat->TT) (fs:Array Field) (n:Nat):aa (Nat × iL)->ah (aa QX)
 | []=>some []
 | (k,x)::r=>match fs[k]?,(placesOf P fs)[k]?,NK P g fs n r with
  | some fi,some (off,size),some qs=>match rM P g fi.type off x with
   | some X=>if X.cs.length=size/\off+size<=n then some (⟨off,X⟩::qs) else none
   | none=>none
  | _,_,_=>none
theorem arM {ps:aa Pt}:∀{p:Pt},p∈ps->(ps.map (·.t)).count p.t<=1->ps.find? (fun q=>q.t == p.t)=some p:=by
 induction ps with
 | nil=>intro p h;simp at h
 | cons q ps ih=>
  intro p hp hc;simp only [List.find?_cons];by_cases hq:q.t=p.t
  ·simp only [hq,beq_self_eq_true];rcases aY.1 hp with rfl|Q6
   ·rfl
   ·exfalso;have h1:p.t∈ps.map (·.t):=List.mem_map_of_mem Q6;have:=List.count_pos_iff.2 h1;simp only [bv,List.count_cons,hq,beq_self_eq_true,if_true] at hc;omega
  ·have hb:(q.t == p.t)=false:=by simpa using hq
   simp only [hb];rcases aY.1 hp with rfl|Q6
   ·exact absurd rfl hq
   ·refine ih Q6 ?_;simp only [bv,List.count_cons,hb] at hc;simpa using hc
section
variable {P:aS} {ac:Nat->Nat->aj} {κ0 κ:aQ} {w0 w:aA} {N:Nat} {tg g:Nat->TT} {sv s:Nat->AV} {a:Act}
structure aC2 (κ:aQ) (w:World) (srcs:List Nat) (qs:List QX) (ass:List (List A)) (ps:List Pt):Prop where
 cs:∀C,jd Pt.cs C ps=spl C (qs.map fun q=>(q.off,q.X.cs))
 as:∀C,jd Pt.as C ps=spl C ((X6 qs).zip ass)
 part:∀p,p∈ps->Part κ w srcs p.t p.cs p.vs p.as
 ts:ps.map (·.t)=qs.map (·.X.t)
theorem ac0 (h:R ac κ0 w0 κ w N tg sv (gm a)) (hL:Le g s tg sv) {fs:Array Field} {n:Nat} {srcs:aa Nat}:∀{parts:aa (Nat × iL)} {qs:aa QX} {ass:aa (aa A)},NK P g fs n parts=some qs->sU s qs=some ass ->
  (∀q,q∈qs->(q.X.own=true->q.X.t∈srcs)/\CT.mens srcs q.X.cs=false) ->
  ∃ps,aC2 κ w srcs qs ass ps/\aoA n ps/\(∀V:aa aj,V.length=n->wJ (fun k=>(placesOf P fs)[k]?) V (parts.map fun p=>(p.1,(a.eval p.2).cells.toList))=some (jd Pt.vs V ps))
 | [],qs,ass,hb,hg,_=>by
  simp only [NK,aN] at hb;subst hb;simp only [sU,aN] at hg;subst hg;exact ⟨[],⟨fun C=>rfl,fun C=>rfl,by simp,rfl⟩,by simp [aoA],fun V _=>rfl⟩
 | (k,x)::r,qs,ass,hb,hg,hs=>by
  simp only [NK] at hb;split at hb;case h_2=>cases hb
  case h_1 fi off size qs' hfi VE b_=>
  split at hb;case h_2=>cases hb
  case h_1 X hX=>
  split at hb;case isFalse=>cases hb
  case isTrue hc=>
  cases hb;simp only [sU] at hg;split at hg;case h_2=>cases hg
  case h_1 as ass' jU qm=>
  cases hg;have hq:=hs ⟨off,X⟩ (by simp);obtain ⟨vs,h1,h2,_⟩:=Ja h hL hX jU hq.1 hq.2;obtain ⟨ps,hB,hF,arb⟩:=ac0 h hL b_ qm fun q hq=>hs q (by simp [hq])
  have hl:=h2.len;refine ⟨⟨off,X.t,X.cs,vs,as⟩::ps,⟨fun C => ?_,fun C => ?_,fun p hp => ?_,?_⟩,fun p hp => ?_,fun V hV => ?_⟩
  ·simp only [jd,bv,spl];exact hB.cs _
  ·simp only [jd,X6,bv,Rn,spl];exact hB.as _
  ·rcases aY.1 hp with rfl|hp
   ·exact h2
   ·exact hB.part p hp
  ·simp [hB.ts]
  ·rcases aY.1 hp with rfl|hp
   ·simp only;omega
   ·exact hF p hp
  ·simp only [bv,wJ,VE,yT h1,jd];rw [if_pos ⟨by omega,by omega⟩];exact arb _ (by rw [lm (by omega)];exact hV)
end
def uK (qs:aa QX):aa Nat:=qs.flatMap fun q=>dN q.X
def Kq (ZA:aa A) (qs:aa QX) (s:Nat->AV):ah (aa AV):=
 match sU s qs with
 | some ass=>some [.v (spl ZA ((X6 qs).zip ass)) []]
 | none=>none
def okQ (qs:aa QX):Bool:=
 qs.all (fun q=>!CT.mens (uK qs) q.X.cs)&&(uK qs).all (fun t=>decide ((qs.map (·.X.t)).count t<=1)) && !(uK qs).contains FB
def VW (P:aS) (N:Nat) (g:Nat->TT) (o:bP):ah Stp:=
 match o.dst,o.op with
 | some d,.build t parts=>match P.underlying t,P.info? t,abH P fuel t with
  | some (.struct fs),some i,some Z=>match i.zero with
   | some z=>match zA Z z.cells.toList,NK P g fs Z.length parts.toList with
    | some ZA,some qs=>
     let C:=spl Z (qs.map fun q=>(q.off,q.X.cs))
     if d<N/\fs.toList.all (fun f=>(P.info? f.type).isSome)=true/\okQ qs=true/\iD C=true then
      some (Stp.mv d (uK qs) (.val true C) (qs.flatMap (·.X.rd)) (.det (Kq ZA qs)))
     else none
    | _,_=>none
   | none=>none
  | _,_,_=>none
 | _,_=>none
theorem akE {P:aS} {N:Nat} {g:Nat->TT} {o:bP} {S:Stp} (h:VW P N g o=some S):ek P N o g S:=by
 unfold VW at h;split at h;case h_2=>cases h
 case h_1 d t parts hd ho=>
 split at h;case h_2=>cases h
 case h_1 fs i Z yJ hi hZ=>
 split at h;case h_2=>cases h
 case h_1 z hz=>
 split at h;case h_2=>cases h
 case h_1 ZA qs hZA hqs=>
 simp only at h;split at h;case isFalse=>cases h
 case isTrue hc=>
 obtain ⟨hdN,aFk,aT,ji⟩:=hc;cases h;intro ac κ0 κ w0 w tg sv s a v next Q hN hR hL hv bU;simp only [Stp.mv,Eff.rel,Kq] at hv;split at hv;case h_2=>cases hv
 case h_1 ass Fu=>
 cases hv;simp only [okQ,aU,bW,sK] at aT;obtain ⟨⟨hm,ho1⟩,qg⟩:=aT;obtain ⟨ps,hB,hF,arb⟩:=ac0 (srcs:=uK qs) hR hL hqs Fu fun q hq=>⟨fun ho=>Ch.2 ⟨q,hq,by simp [dN,ho]⟩,hm q hq⟩
 have Q9:=RA hZA;have bN:=Dj Q9;have once:awY (uK qs) ps:=fun p hp hs=>arM hp (by rw [hB.ts];simpa using ho1 p.t hs)
 have jk:=ayO hR hdN (srcs:=uK qs) (by simpa using qg) Q9 hB.part once hF (by rw [hB.cs];exact ji);rw [hB.cs,hB.as] at jk;refine wN hd hN hdN (w':=w) ?_ jk bU;unfold execOp;rw [ho];simp only;refine dG ?_;have hf2:=arb z.cells.toList bN;refine run_build (P:=P) yJ hi hz aFk (l:=jd Pt.vs z.cells.toList ps) ?_;rw [<-hf2];congr 1;simp [XI,Av,Function.comp_def]
end Go.Fw
namespace Go.Fw
def X7:aa Nat->Nat->Nat->ah Nat
 | [],_,_=>none
 | u::us,t,i=>if u=t then some i else X7 us t (i+1)
theorem agH {t:Nat} {post:aa Nat}:∀{pre:aa Nat} {i:Nat},(pre++t::post).count t<=1->X7 (pre++t::post) t i=some (i+pre.length)
 | [],i,_=>by simp [X7]
 | u::pre,i,h=>by
  have aX:u≠t:=by
   intro he;subst he;simp only [mZ,List.count_cons,List.count_append,beq_self_eq_true,if_true] at h;omega
  simp only [mZ,X7,if_neg aX]
  rw [agH (by simp only [mZ,List.count_cons] at h;have:(u == t)=false:=by simpa using aX
              simp only [this] at h;simpa using h)]
  simp only [bF];congr 1;omega
def slF (T:aa Nat) (size:Nat) (t k:Nat):ah (aa Nat):=(X7 T t 0).map fun i=>[0,i*size+k]
section
variable {κ:aQ} {w w':aA} {srcs T:aa Nat} {d size:Nat} {nb:ah (Nat × Pl)} {e:aa CT}
theorem agI (hw:Grows w w') (ol:∀b p,nb=some (b,p)->w.heap.size<=b) (hc:∀b,w.heap.size<=b->κ b=none) (hT:∀t,t∈srcs->T.count t<=1) (he:e.length=size) :
  ∀{ps:aa Pt} {pre:aa Nat} {V0:aa aj},(∀p,p∈ps->Part κ w srcs p.t p.cs p.vs p.as/\CT.les p.cs e=true)->T=pre++ps.map (·.t)->V0.length=pre.length*size ->
   dz (bf κ (tL srcs d (slF T size)) nb) w' e (d,[0]) (pre.length*size) (fun k=>(V0++(ps.map (·.vs)).flatten).getD k undef) (ps.map (·.as))
 | [],_,_,_,_,_=>by simp [dz]
 | p::ps,pre,V0,hp,gK,hV=>by
  obtain ⟨h1,h2⟩:=hp p (by simp);have hl:p.cs.length=size:=by rw [<-he];exact jM h2
  simp only [bv,dz];constructor
  ·refine wP h2 (wM hw ol hc h1 (fun k hk ht => ?_) fun i hi => ?_)
   ·unfold slF;rw [gK,bv,agH (by have:=hT p.t ht;rw [gK] at this;simpa using this)];simp
   ·have:=h1.len;simp only [Kc,dw];rw [<-hV,uT (by omega),rE (by omega)];congr 2;omega
  ·have:=agI (ps:=ps) (pre:=pre++[p.t]) (V0:=V0++p.vs) hw ol hc hT he (fun q hq=>hp q (by simp [hq])) (by rw [gK];simp) (by
    rw [dP,hV,h1.len,hl,dP];simp [eu])
   simp only [dP,bF,bQ,dE,eu,Aw] at this;rw [he];simp only [Kc,lK] at this ⊢;exact this
end
def agJ (P:aS) (g:Nat->TT) (et:TypeId) (size:Nat):Nat->aa (Nat × iL)->ah (aa QX)
 | _,[]=>some []
 | k,(j,x)::r=>if j=k then match rM P g et k x,agJ P g et size (k+1) r with
   | some X,some qs=>if X.cs.length=size then some (⟨k,X⟩::qs) else none
   | _,_=>none
  else none
theorem ac1 {size:Nat}:∀{vss:aa (aa aj)} {k:Nat} {pre Z:aa aj},(∀v,v∈vss->v.length=size)->pre.length=k*size->Z.length=vss.length*size ->
  wJ (fun k=>some (k*size,size)) (pre++Z) ((vss.zipIdx k).map fun p=>(p.2,p.1))=some (pre++vss.flatten)
 | [],k,pre,Z,_,_,hZ=>by
  have:Z=[]:=qL.1 (by simpa using hZ)
  subst this;simp [wJ]
 | v::vss,k,pre,Z,hv,hp,hZ=>by
  have h1:=hv v (by simp)
  simp only [bF,eu,Aw] at hZ
  simp only [List.zipIdx_cons,bv,wJ]
  rw [if_pos ⟨h1,by rw [dP];omega⟩]
  have hs:splice (pre++Z) (k*size) v=(pre++v)++Z.drop size:=by
   unfold splice;rw [<-hp,List.take_left,List.drop_append,h1];have:List.drop (pre.length+size) pre=[]:=List.drop_eq_nil_of_le (by omega);rw [this];simp
  rw [hs,ac1 (fun u hu=>hv u (by simp [hu])) (by rw [dP,hp,h1];simp [eu]) (by rw [sN];omega)]
  simp
section
variable {P:aS} {ac:Nat->Nat->aj} {κ0 κ:aQ} {w0 w:aA} {N:Nat} {tg g:Nat->TT} {sv s:Nat->AV} {a:Act}
theorem al2 (h:R ac κ0 w0 κ w N tg sv (gm a)) (hL:Le g s tg sv) {et:TypeId} {size:Nat} {srcs:aa Nat}:∀{k:Nat} {parts:aa (Nat × iL)} {qs:aa QX} {ass:aa (aa A)},agJ P g et size k parts=some qs->sU s qs=some ass ->
  (∀q,q∈qs->(q.X.own=true->q.X.t∈srcs)/\CT.mens srcs q.X.cs=false) ->
  ∃ps:aa Pt,(∀p,p∈ps->Part κ w srcs p.t p.cs p.vs p.as)/\ps.map (·.t)=qs.map (·.X.t)/\ps.map (·.cs)=qs.map (·.X.cs)/\ps.map (·.as)=ass/\(∀p,p∈ps->p.vs.length=size) /\
   parts.map (fun p=>(p.1,(a.eval p.2).cells.toList))=((ps.map (·.vs)).zipIdx k).map fun p=>(p.2,p.1)
 | k,[],qs,ass,hb,hg,_=>by
  simp only [agJ,aN] at hb;subst hb;simp only [sU,aN] at hg;subst hg;exact ⟨[],by simp,rfl,rfl,rfl,by simp,rfl⟩
 | k,(j,x)::r,qs,ass,hb,hg,hs=>by
  simp only [agJ] at hb;split at hb;case isFalse=>cases hb
  case isTrue hj=>
  subst hj;split at hb;case h_2=>cases hb
  case h_1 X qs' hX b_=>
  split at hb;case isFalse=>cases hb
  case isTrue hc=>
  cases hb;simp only [sU] at hg;split at hg;case h_2=>cases hg
  case h_1 as ass' jU qm=>
  cases hg;have hq:=hs ⟨j,X⟩ (by simp);obtain ⟨vs,h1,h2,_⟩:=Ja h hL hX jU hq.1 hq.2;obtain ⟨ps,g1,g2,g3,g4,g5,g6⟩:=al2 h hL b_ qm fun q hq=>hs q (by simp [hq])
  refine ⟨⟨j,X.t,X.cs,vs,as⟩::ps,fun p hp => ?_,by simp [g2],by simp [g3],by simp [g4],fun p hp => ?_,by simp [g6,yT h1,List.zipIdx_cons]⟩
  ·rcases aY.1 hp with rfl|hp
   ·exact h2
   ·exact g1 p hp
  ·rcases aY.1 hp with rfl|hp
   ·simp only;rw [h2.len,hc]
   ·exact g5 p hp
end
def X8 (qs:aa QX) (s:Nat->AV):ah (aa AV):=
 match sU s qs with
 | some ass=>some [.v [.s ass] []]
 | none=>none
def aE4 (P:aS) (et:TypeId):aa QX->ah (aa CT)
 | []=>abH P fuel et
 | q::qs=>some (qs.foldl (fun e q=>CT.jns e q.X.cs) q.X.cs)
def agK (P:aS) (N:Nat) (g:Nat->TT) (o:bP):ah Stp:=
 match o.dst,o.op with
 | some d,.buildSlice t n parts=>match X5 P t with
  | some E=>match agJ P g E.e E.i.size 0 parts.toList with
   | some qs=>match aE4 P E.e qs with
    | some e=>
     if d<N/\parts.toList.length=n/\n*E.i.size<=16777216/\okQ qs=true/\qs.all (fun q=>CT.les q.X.cs e)=true/\e.length=E.i.size then
      some (Stp.mv d (uK qs) (.val false [.sl (.own none) e]) (qs.flatMap (·.X.rd)) (.det (X8 qs)))
     else none
    | none=>none
   | none=>none
  | none=>none
 | _,_=>none
theorem arN {P : aS} {N : Nat} {g : Nat → TT} {o : bP} {S : Stp} (h : agK P N g o = some S) : ek P N o g S := by
  unfold agK at h;split at h;case h_2 => cases h
  case h_1 d t n parts hd ho =>
  split at h;case h_2 => cases h
  case h_1 E hE =>
  split at h;case h_2 => cases h
  case h_1 qs hqs =>
  split at h;case h_2 => cases h
  case h_1 e he =>
  split at h;case isFalse => cases h
  case isTrue hc =>
  obtain ⟨hdN, hn, dF, aT, cZ, qo⟩ := hc;cases h;intro ac κ0 κ w0 w tg sv s a v next Q hN hR hL hv bU;simp only [Stp.mv, Eff.rel, X8] at hv;split at hv;case h_2 => cases hv
  case h_1 ass Fu =>
  cases hv;obtain ⟨z, Q8⟩ := VV hE;simp only [okQ, aU, bW, sK] at aT;obtain ⟨⟨hm, ho1⟩, qg⟩ := aT;obtain ⟨ps, g1, g2, g3, g4, g5, g6⟩ := al2 (srcs := uK qs) hR hL hqs Fu fun q hq => ⟨fun ho => Ch.2 ⟨q, hq, by simp [dN, ho]⟩, hm q hq⟩
  have bN : ps.length = n := by
    have := congrArg List.length g6;simp only [dX, XE] at this;omega
  have hls : ∀ p, p ∈ ps → CT.les p.cs e = true := by
    intro p hp;have : p.cs ∈ qs.map (·.X.cs) := by rw [← g3]; exact List.mem_map_of_mem hp
    obtain ⟨q, hq, hqe⟩ := bX.1 this;rw [← hqe];exact (bW.1 cZ) q hq
  have Bp : ass.length = n := by rw [← g4]; simpa using bN
  have agn : ((ps.map (·.vs)).flatten).length = n * E.i.size := by
    have : ∀ (ps : aa Pt), (∀ p, p ∈ ps → p.vs.length = E.i.size) → ((ps.map (·.vs)).flatten).length = ps.length * E.i.size := by
      intro ps;induction ps with
      | nil => intro _; simp
      | cons p ps ih =>
        intro h;simp only [bv, Kc, dP, bF, eu, Aw];rw [ih fun q hq => h q (by simp [hq]), h p (by simp)]; omega
    rw [this ps g5, bN]
  have aFl : FB ∉ uK qs := by simpa using qg
  have jk := agx hR hdN (srcs := uK qs) aFl (f := slF (qs.map (·.X.t)) E.i.size) (e := e) (xs := ass) (cells := ((ps.map (·.vs)).flatten).toArray) (ty := E.e) (cap := n) (by omega) (by
      rw [qo]; simp only [List.size_toArray, agn]; omega) (fun κ' w' hκ hw => by
    have := agI (w' := w') (d := d) (nb := some (w.heap.size, (d, [0]))) (T := qs.map (·.X.t)) (κ := κ) (srcs := uK qs) (size := E.i.size) (e := e) (by rw [hw]; exact ug w _ _) (fun b p hb => by cases hb; omega) hR.col
      (fun t ht => by simpa using ho1 t ht) qo (ps := ps) (pre := []) (V0 := []) (fun p hp => ⟨g1 p hp, hls p hp⟩) (by simp [g2]) (by simp)
    rw [g4] at this
    rw [hκ]
    simpa using this)
  rw [Bp] at jk;refine wN hd hN hdN (w' := fI w ((ps.map (·.vs)).flatten).toArray E.e) ?_ jk bU;unfold execOp; rw [ho];simp only;refine dG ?_;refine run_buildSlice Q8 dF ?_;have hff := ac1 (size := E.i.size) (vss := ps.map (·.vs)) (k := 0) (pre := []) (Z := (List.replicate n z.cells.toList).flatten) (fun v hv => by
    obtain ⟨p, hp, rfl⟩ := bX.1 hv; exact g5 p hp) (by simp) (by
      have := Q8.zsize
      simp [bN, this])
  rw [← g6] at hff;simp only [gQ] at hff;rw [← hff];congr 1;simp [XI, Av, Function.comp_def]
end Go.Fw
namespace Go.Fw
section
variable {ac:Nat->Nat->aj} {κ0 κ:aQ} {w0 w:aA} {N:Nat} {tg tg2:Nat->TT} {sv:Nat->AV} {tm:Nat->aj}
theorem al3 (h:R ac κ0 w0 κ w N tg sv tm) {r b:Nat} {cs:aa CT} (hr:tg r = .box cs) (hb:tm r = .pointer (some ⟨b,0,none⟩))
  (h2:∀t,tg2 t=tg t\/(tg t = .dead/\t<N/\∃off S,tg2 t = .ptr r [] off S/\sv t = .p []/\tm t = .pointer (some ⟨b,0+off,none⟩))):R ac κ0 w0 κ w N tg2 sv tm:=by
 have nZ:∀r x,rg w (tg2 r) x=rg w (tg r) x/\rb (tg2 r) x=rb (tg r) x:=by
  intro r' x;rcases h2 r' with h2|⟨h3,_,off,S,h4,_⟩
  ·rw [h2];exact ⟨rfl,rfl⟩
  ·rw [h3,h4];exact ⟨by funext k;simp [rg],by simp [rb]⟩
 have hk:=h.tr r;rw [hr] at hk;simp only [TR] at hk;obtain ⟨as,b',_,k2,k3,k4,_⟩:=hk;rw [hb] at k2;cases k2;refine ⟨fun t => ?_,fun t ht => ?_,h.col,h.fr,h.fb,h.nle⟩
 ·rcases h2 t with Bq|⟨_,_,off,S,h4,h5,h6⟩
  ·have:=h.tr t;rw [Bq];cases hT:tg t with
   | alias ag cs r sk off S=>rw [hT] at this;simp only [TR,(nZ r (tm r)).2,show rg w (tg2 r) (tm r)=rg w (tg r) (tm r) from (nZ r (tm r)).1] at this ⊢;exact this
   | ptr r sk off S=>rw [hT] at this;simp only [TR,(nZ r (tm r)).2,show rg w (tg2 r) (tm r)=rg w (tg r) (tm r) from (nZ r (tm r)).1] at this ⊢;exact this
   | dead=>simp [TR]
   | val=>rw [hT] at this;simpa only [TR] using this
   | box=>rw [hT] at this;simpa only [TR] using this
   | tup=>rw [hT] at this;simpa only [TR] using this
  ·rw [h4];simp only [TR,(nZ r (tm r)).2,show rg w (tg2 r) (tm r)=rg w (tg r) (tm r) from (nZ r (tm r)).1];refine ⟨[],b,0,h5,by simp [iA,hr,hb,rb,wk],by simp [PO],fun b' b_ => ?_,h6⟩;rw [hr,hb] at b_;simp [rb] at b_;subst b_;exact k4
 ·rcases h2 t with Bq|⟨_,h3,_⟩
  ·rw [Bq];exact h.out t ht
  ·omega
end
def vT (N:Nat) (g:Nat->TT) (t:Nat):ah Stp:=
 match g t with
 | .alias ag cs0 r [] off _=>match g r with
  | .val gg cs=>if t<N/\r<N/\t≠r/\CT.mens [r] cs=false/\off+cs0.length<=cs.length then
    some ⟨[(t,.val ag ((cs.drop off).take cs0.length)),(r,.val gg (kT off cs0.length cs))],fun T=>T.killS r [t,r] [r],[t],.det (iH t)⟩ else none
  | .box cs=>if t<N/\r<N/\t≠r/\CT.mens [r] cs=false/\off+cs0.length<=cs.length then
    some ⟨[(t,.val ag ((cs.drop off).take cs0.length)),(r,.box (kT off cs0.length cs))],fun T=>T.killS r [t,r] [r],[t],.det (iH t)⟩ else none
  | _=>none
 | _=>none
def az_ (P:aS) (N:Nat) (g:Nat->TT) (S:Stp):Prop:=
 ∀(ac:Nat->Nat->aj) (κ0 κ:aQ) (w0 w:aA) (tg:Nat->TT) (sv s:Nat->AV) (tm:Nat->aj) (v:aa AV),R ac κ0 w0 κ w N tg sv tm->Le g s tg sv->S.eff.rel P s v ->
  ∃κ' tg' sv',R ac κ0 w0 κ' w N tg' sv' tm/\(∀t,tg' t=aG (fun t=>S.kl (tg t)) S.up t)/\(∀t,sv' t=aG sv ((S.up.map (·.1)).zip v) t)
theorem Kr {r:Nat} {mods M:aa Nat} {T:TT} (h:T.killS r mods M≠T.kill mods M):∃off S,T = .ptr r [] off S/\T.killS r mods M=T:=by
 unfold TT.killS at h ⊢;split at h
 ·rename_i r' off S;split at h
  ·rename_i hr;subst hr;exact ⟨off,S,rfl,by simp⟩
  ·exact absurd rfl h
 ·exact absurd rfl h
theorem aoL {P:aS} {N:Nat} {g:Nat->TT} {t:Nat} {S:Stp} (h:vT N g t=some S):az_ P N g S:=by
 unfold vT at h;split at h;case h_2=>cases h
 case h_1 ag cs0 r off S0 hT=>
 have main:∀{cs:aa CT} {tag':TT},(g r).cts=some cs->t<N->r<N->t≠r->CT.mens [r] cs=false->off+cs0.length<=cs.length ->
   (∀tg:Nat->TT,tg r=g r->tag'=match tg r with | .val g _=>.val g (kT off cs0.length cs) | .box _=>.box (kT off cs0.length cs)|x=>x) ->
   az_ P N g ⟨[(t,.val ag ((cs.drop off).take cs0.length)),(r,tag')],fun T=>T.killS r [t,r] [r],[t],.det (iH t)⟩:=by
  intro cs tag' qi lG yf GZ hm hn aq7 ac κ0 κ w0 w tg sv s tm v hR hL hv;simp only [Eff.rel,iH,dh] at hv;obtain ⟨as,hg,rfl⟩:=hv;obtain ⟨is,hs⟩:=cO hg;obtain ⟨e1,e2⟩:=hL.at hT (by simp);obtain ⟨sG,_⟩:=AB hL qi;have gZ:tg r=g r:=by
   have aX:g r≠.dead:=fun he=>by rw [he] at qi;simp [TT.cts] at qi
   exact (hL.at rfl aX).1
  have jk:=az4 hR lG yf GZ e1 sG hm hn (by rw [e2,hs]) (aq7 tg gZ);refine ⟨bf κ (kJ r off cs0.length t) none,aG (fun u=>(tg u).killS r [t,r] [r]) [(t,.val ag ((cs.drop off).take cs0.length)),(r,tag')],aG sv [(t,.v as [])],?_,fun u=>rfl,fun u=>by simp⟩;have jB:aG sv [(t,.v as [])]=upd sv t (.v as []):=Dm _ _ _;rw [jB]
  -- pointers to the box itself stay
  by_cases Mx:∃cb,tg r = .box cb
  ·obtain ⟨cb,hcb⟩:=Mx;have hk:=hR.tr r;rw [hcb] at hk;simp only [TR] at hk;obtain ⟨as2,b,_,k2,_⟩:=hk;have arc:=aq7 tg gZ;rw [hcb] at arc;simp only at arc;refine al3 jk (r:=r) (b:=b) (cs:=kT off cs0.length cs) (by rw [upd_ne _ _ _ (mH GZ),bS];exact arc) k2 fun u => ?_
   by_cases Fv:u=t
   ·left;subst Fv;simp [aG,upd]
   ·by_cases G5:u=r
    ·left;subst G5;simp [aG,upd,Fv]
    ·simp only [aG,if_neg Fv,if_neg G5,upd];by_cases fJ:(tg u).killS r [t,r] [r]=(tg u).kill [t,r] [r]
     ·exact .inl fJ
     ·right;obtain ⟨off',S',hp,nY⟩:=Kr fJ;have hu:=hR.tr u;rw [hp] at hu;simp only [TR] at hu;obtain ⟨is',B,O,u1,u2,_,_,u5⟩:=hu;rw [hcb] at u2;simp only [iA,rb,k2,dx] at u2;have pg:is'=[]/\B=b/\O=0:=by
       cases is' with
       | nil=>simp only [wk,aN,di] at u2;exact ⟨rfl,u2.1.symm,u2.2.symm⟩
       | cons=>simp [wk] at u2
      obtain ⟨rfl,rfl,rfl⟩:=pg;refine ⟨by rw [hp];simp [TT.kill],?_,off',S',by rw [nY,hp],by simpa using u1,u5⟩;apply sM;intro cZ;have:=hR.out u cZ;rw [hp] at this;cases this
  ·have:aG (fun u=>(tg u).killS r [t,r] [r]) [(t,.val ag ((cs.drop off).take cs0.length)),(r,tag')]=upd (upd (fun u=>(tg u).kill [t,r] [r]) r tag') t (.val ag ((cs.drop off).take cs0.length)):=by
    funext u;simp only [aG,upd];split
    ·rfl
    ·split
     ·rfl
     ·rename_i Fv G5;by_cases fJ:(tg u).killS r [t,r] [r]=(tg u).kill [t,r] [r]
      ·exact fJ
      ·exfalso;obtain ⟨off',S',hp,_⟩:=Kr fJ;have hu:=hR.tr u;rw [hp] at hu;simp only [TR] at hu;obtain ⟨is',B,O,u1,u2,_⟩:=hu;have:rb (tg r) (tm r)=none:=by
        cases hTr:tg r with
        | box cb=>exact absurd ⟨cb,hTr⟩ Mx
        | _=>simp [rb]
       rw [this] at u2;cases is' with
       | nil=>simp [iA,wk] at u2
       | cons=>simp [iA,wk] at u2
   rw [this];exact jk
 split at h
 ·rename_i gg cs hr;split at h;case isFalse=>cases h
  case isTrue hc=>
  cases h;exact main (by rw [hr];rfl) hc.1 hc.2.1 hc.2.2.1 hc.2.2.2.1 hc.2.2.2.2 fun tg he=>by rw [he,hr]
 ·rename_i cs hr;split at h;case isFalse=>cases h
  case isTrue hc=>
  cases h;exact main (by rw [hr];rfl) hc.1 hc.2.1 hc.2.2.1 hc.2.2.2.1 hc.2.2.2.2 fun tg he=>by rw [he,hr]
 ·cases h
def RB (X:DX) (z:aa A) (s:Nat->AV):ah (aa AV):=
 match X.get s with
 | some v=>match toN v with
  | some n=>if n<=4294967296 then some [.v [.s (List.replicate n z)] []] else none
  | none=>none
 | none=>none
def abL (P:aS) (N:Nat) (g:Nat->TT) (o:bP):ah Stp:=
 match o.dst,o.op with
 | some d,.makeSlice t (.tmp l) (.tmp c)=>match X5 P t,nR g (.tmp l) with
  | some E,some X=>match abH P fuel E.e,E.i.zero with
   | some e,some z=>match zA e z.cells.toList with
    | some za=>if d<N/\l=c/\e.length=E.i.size then some (Stp.mv d [] (.val false [.sl (.own none) e]) X.rd (.det (RB X za))) else none
    | none=>none
   | _,_=>none
  | _,_=>none
 | _,_=>none
theorem agL {κ:aQ} {w:aA} {p:Pl} {e:aa CT} {z:aa aj} {za:aa A} (hz:ZR e z za):∀{n j:Nat} {V0:aa aj},V0.length=j ->
  dz κ w e p j (fun k=>(V0++(List.replicate n z).flatten).getD k undef) (List.replicate n za)
 | 0,_,_,_=>by simp [dz]
 | n+1,j,V0,hV=>by
  have hl:=Dj hz;simp only [List.replicate_succ,dz];constructor
  ·refine I8 hz fun i hi => ?_
   simp only [Kc,dw];rw [<-hV,uT (by omega),rE (by omega)];congr 2;omega
  ·have:=agL (κ:=κ) (w:=w) (p:=p) hz (n:=n) (j:=j+e.length) (V0:=V0++z) (by rw [dP,hV,hl]);simp only [Kc,lK] at this ⊢;exact this
theorem aoM {P : aS} {N : Nat} {g : Nat → TT} {o : bP} {S : Stp} (h : abL P N g o = some S) : ek P N o g S := by
  unfold abL at h;split at h;case h_2 => cases h
  case h_1 d t l c hd ho =>
  split at h;case h_2 => cases h
  case h_1 E X hE hX =>
  split at h;case h_2 => cases h
  case h_1 e z he hz =>
  split at h;case h_2 => cases h
  case h_1 za hza =>
  split at h;case isFalse => cases h
  case isTrue hc =>
  obtain ⟨hdN, rfl, qo⟩ := hc;cases h;intro ac κ0 κ w0 w tg sv s a v next Q hN hR hL hv bU;simp only [Stp.mv, Eff.rel, RB] at hv;split at hv;case h_2 => cases hv
  case h_1 vv hvv =>
  split at hv;case h_2 => cases hv
  case h_1 n hn =>
  split at hv;case isFalse => cases hv
  case isTrue acL =>
  cases hv;obtain ⟨k, m, rfl, hm0, rfl⟩ := VR hn;obtain ⟨e1, _⟩ := uW hR hL hX hvv;obtain ⟨z', Q8⟩ := VV hE;have hzz : z' = z := by have := Q8.zero; rw [hz] at this; exact (Option.some.inj this).symm
  subst hzz;have hzr := RA hza;have Cc : ((List.replicate m.toNat z'.cells.toList).flatten).length = m.toNat * E.i.size := by
    have := Q8.zsize;simp [this]
  have jk := agx hR hdN (srcs := []) (by simp) (f := fun _ _ => none) (e := e) (xs := List.replicate m.toNat za) (cells := ((List.replicate m.toNat z'.cells.toList).flatten).toArray) (ty := E.e) (cap := m.toNat) (by simp) (by
      rw [qo]; simp only [List.size_toArray, Cc]; omega) (fun κ' w' hκ hw => by
    have := agL (κ := κ') (w := w') (p := (d, [0])) hzr (n := m.toNat) (j := 0) (V0 := []) rfl
    simpa using this)
  simp only [zO] at jk;refine wN hd hN hdN (w' := fI w ((List.replicate m.toNat z'.cells.toList).flatten).toArray E.e) ?_ jk bU;unfold execOp; rw [ho];simp only;refine dG ?_;have := run_makeSlice (P := P) (t := t) (n := m.toNat) (k := k) (w := w) Q8 acL;rw [show ((m.toNat : Nat) : Int) = m from by omega] at this;rw [e1];exact this
end Go.Fw
namespace Go.Fw
section
variable {κ κ':aQ} {w w':aA} {S S':aa Nat}
mutual
theorem aAa (bq:∀b,bg κ w S b->bg κ' w' S' b/\Same w w' b):∀{c:CT} {p p':Pl} {x:aj} {a:A},RC κ w (c.roize S) p x a->RC κ' w' (c.roize S') p' x a
 | .d,_,_,_,.v _,h=>by simp only [CT.roize,RC] at h ⊢;exact h
 | .d,_,_,_,.s _,h=>by simp [CT.roize,RC] at h
 | .sl m e,p,p',x,.v _,h=>by simp [CT.roize,RC] at h
 | .sl m e,p,p',x,.s xs,h=>by
  simp only [CT.roize,RC] at h ⊢;obtain ⟨ao,cap,hx,cZ,hc⟩:=h;refine ⟨ao,cap,hx,cZ,?_⟩;rcases hc with h0|⟨b,o,rfl,hb,hr,he⟩
  ·exact .inl h0
  ·obtain ⟨b_,fJ⟩:=bq b hb;refine .inr ⟨b,o,rfl,b_,by rw [dD] at hr ⊢;exact fJ.rdb hr,?_⟩;refine I5 (fun i _ hi => ?_) (al4 bq he);rw [dD] at hr hi;exact fJ.cD hr (by omega) (by omega)
theorem RF (bq:∀b,bg κ w S b->bg κ' w' S' b/\Same w w' b):∀{cs:aa CT} {p p':Pl} {j:Nat} {get:Nat->aj} {as:aa A},aB κ w (CT.roizes S cs) p j get as->aB κ' w' (CT.roizes S' cs) p' j get as
 | [],_,_,_,_,[],_=>by simp [CT.roizes,aB]
 | c::cs,p,p',j,get,a::as,h=>by
  simp only [CT.roizes,aB] at h ⊢;exact ⟨aAa bq h.1,RF bq h.2⟩
 | [],_,_,_,_,_::_,h=>by simp [CT.roizes,aB] at h
 | _::_,_,_,_,_,[],h=>by simp [CT.roizes,aB] at h
theorem al4 (bq:∀b,bg κ w S b->bg κ' w' S' b/\Same w w' b):∀{e:aa CT} {p p':Pl} {j:Nat} {get:Nat->aj} {xs:aa (aa A)},dz κ w (CT.roizes S e) p j get xs->dz κ' w' (CT.roizes S' e) p' j get xs
 | _,_,_,_,_,[],_=>by simp [dz]
 | e,p,p',j,get,x::xs,h=>by
  simp only [dz,dD] at h ⊢;exact ⟨RF bq h.1,al4 bq h.2⟩
end
end
mutual
def CT.shp:CT->CT
 | .d=>.d
 | .sl _ e=>.sl .dead (CT.shps e)
def CT.shps:aa CT->aa CT
 | []=>[]
 | c::cs=>c.shp::CT.shps cs
end
mutual
theorem arO (S:aa Nat):∀{c c':CT},c.shp=c'.shp->c.roize S=c'.roize S
 | .d,.d,_=>rfl
 | .sl m e,.sl m' e',h=>by
  simp only [CT.shp,CT.sl.injEq] at h;simp only [CT.roize];rw [Cj S h.2]
 | .d,.sl _ _,h=>by simp [CT.shp] at h
 | .sl _ _,.d,h=>by simp [CT.shp] at h
theorem Cj (S:aa Nat):∀{cs cs':aa CT},CT.shps cs=CT.shps cs'->CT.roizes S cs=CT.roizes S cs'
 | [],[],_=>rfl
 | c::cs,c'::cs',h=>by
  simp only [CT.shps,Rs] at h;simp only [CT.roizes];rw [arO S h.1,Cj S h.2]
 | [],_::_,h=>by simp [CT.shps] at h
 | _::_,[],h=>by simp [CT.shps] at h
end
mutual
def CT.unpin:CT->CT
 | .d=>.d
 | .sl (.own _) e=>.sl (.own none) (CT.unpins e)
 | .sl m e=>.sl m (CT.unpins e)
def CT.unpins:aa CT->aa CT
 | []=>[]
 | c::cs=>c.unpin::CT.unpins cs
end
theorem iR:∀cs:aa CT,(CT.unpins cs).length=cs.length
 | []=>rfl
 | c::cs=>by simp [CT.unpins,iR cs]
mutual
theorem agM {κ:aQ} {w:aA}:∀{c:CT} {p:Pl} {x:aj} {a:A},RC κ w c.unpin p x a↔RC κ w c p x a
 | .d,_,_,a=>by simp only [CT.unpin]
 | .sl (.own k) e,p,x,.s xs=>by
  simp only [CT.unpin,RC,iR];constructor
  ·rintro ⟨ao,cap,h1,h2,h3⟩;refine ⟨ao,cap,h1,h2,?_⟩;rcases h3 with h3|⟨b,o,g1,g2,g3,g4,g5⟩
   ·exact .inl h3
   ·exact .inr ⟨b,o,g1,g2,g3,g4,vU.1 g5⟩
  ·rintro ⟨ao,cap,h1,h2,h3⟩;refine ⟨ao,cap,h1,h2,?_⟩;rcases h3 with h3|⟨b,o,g1,g2,g3,g4,g5⟩
   ·exact .inl h3
   ·exact .inr ⟨b,o,g1,g2,g3,g4,vU.2 g5⟩
 | .sl (.ro S) e,p,x,.s xs=>by
  simp only [CT.unpin,RC,iR];constructor
  ·rintro ⟨ao,cap,h1,h2,h3⟩;refine ⟨ao,cap,h1,h2,?_⟩;rcases h3 with h3|⟨b,o,g1,g2,g3,g4⟩
   ·exact .inl h3
   ·exact .inr ⟨b,o,g1,g2,g3,vU.1 g4⟩
  ·rintro ⟨ao,cap,h1,h2,h3⟩;refine ⟨ao,cap,h1,h2,?_⟩;rcases h3 with h3|⟨b,o,g1,g2,g3,g4⟩
   ·exact .inl h3
   ·exact .inr ⟨b,o,g1,g2,g3,vU.2 g4⟩
 | .sl .dead e,p,x,.s xs=>by simp [CT.unpin,RC]
 | .sl .dead e,p,x,.v _=>by simp [CT.unpin,RC]
 | .sl (.own k) e,p,x,.v _=>by simp [CT.unpin,RC]
 | .sl (.ro S) e,p,x,.v _=>by simp [CT.unpin,RC]
theorem fV {κ:aQ} {w:aA}:∀{cs:aa CT} {p:Pl} {j:Nat} {get:Nat->aj} {as:aa A},aB κ w (CT.unpins cs) p j get as↔aB κ w cs p j get as
 | [],_,_,_,_=>by simp only [CT.unpins]
 | c::cs,p,j,get,[]=>by simp [CT.unpins,aB]
 | c::cs,p,j,get,a::as=>by
  simp only [CT.unpins,aB];exact ⟨fun h=>⟨agM.1 h.1,fV.1 h.2⟩,fun h=>⟨agM.2 h.1,fV.2 h.2⟩⟩
theorem vU {κ:aQ} {w:aA}:∀{e:aa CT} {p:Pl} {j:Nat} {get:Nat->aj} {xs:aa (aa A)},dz κ w (CT.unpins e) p j get xs↔dz κ w e p j get xs
 | _,_,_,_,[]=>by simp [dz]
 | e,p,j,get,x::xs=>by
  simp only [dz,iR];exact ⟨fun h=>⟨fV.1 h.1,vU.1 h.2⟩,fun h=>⟨fV.2 h.1,vU.2 h.2⟩⟩
end
def ym (p:aa Nat) (base n i:Nat) (q:aa Nat):ah Pl:=
 if p <+: q then match q.drop p.length with
  | m::q'=>if base<=m/\m<base+n then some (i,(m-base)::q') else none
  | []=>none
 else none
def gBp (p:aa Nat) (base:Nat):aa Nat->ah (aa Nat)
 | k::q=>some (p++(base+k)::q)
 | []=>none
theorem aAb {p:aa Nat} {base n i k:Nat} {q:aa Nat} (hk:k<n):ym p base n i (p++(base+k)::q)=some (i,k::q):=by
 unfold ym;rw [if_pos (List.prefix_append _ _),List.drop_left];simp only;rw [if_pos ⟨by omega,by omega⟩];simp
theorem RG {p:aa Nat} {base n i:Nat} {q:aa Nat} (h:∀k,k<n->¬p++[base+k] <+: q):ym p base n i q=none:=by
 unfold ym;split
 ·rename_i hp;obtain ⟨r,rfl⟩:=hp;rw [List.drop_left];cases r with
  | nil=>rfl
  | cons m q'=>
   simp only;split
   ·rename_i hm;exfalso;refine h (m-base) (by omega) ?_;rw [show base+(m-base)=m from by omega];exact ⟨q',by simp⟩
   ·rfl
 ·rfl
structure CallR (κ κi κ':aQ) (w w':World) (np d:Nat) (r0:Option Nat) (gG:List Nat->Option Pl) (gB:List Nat->Option (List Nat)) (Sall:List Nat) (sg:aL):Prop where
 ki:κi=fA κ r0 gG Sall
 col0:∀b,w.heap.size<=b->κ b=none
 col:∀b,w'.heap.size<=b->κ' b=none
 fr:Fr κi w κ' w'
 fb:∀b q,κi b=some (FB,q)->κ' b=some (FB,q)/\Same w w' b
 mine:∀b r q,κ' b=some (r,q)->(r=FB/\∃q',κi b=some (FB,q'))\/r=np\/∃pm,sg.ps[r]?=some pm/\pm.mut=true
 npe:np=sg.ps.length
 npf:np<FB
section
variable {κ κi κ':aQ} {w w':aA} {np d:Nat} {r0:ah Nat} {gG:aa Nat->ah Pl} {gB:aa Nat->ah (aa Nat)} {Sall:aa Nat} {sg:aL}
theorem arP (oq:∀r,r0=some r->r∉Sall) {b:Nat} (h:bg κ w Sall b) (i:Nat):bg (fA κ r0 gG Sall) w [i] b:=by
 refine ⟨h.1,fun r q hb => ?_⟩;exfalso;unfold fA at hb;cases hk:κ b with
 | none=>simp [hk] at hb
 | some p=>
  obtain ⟨r',q'⟩:=p;have:=h.2 r' q' hk;simp only [hk] at hb;rw [if_neg (fun he=>oq r' he.symm this.1),if_pos ⟨this.1,this.2⟩] at hb;cases hb
theorem CallR.res_ro (h:CallR κ κi κ' w w' np d r0 gG gB Sall sg) {S:aa Nat} (hS:∀r,r∈S->∃pm,sg.ps[r]?=some pm/\pm.mut=false) {b:Nat} (hb:bg κ' w' S b) :
  bg (gu κ κi κ' np d w.heap.size r0 gB) w' Sall b:=by
 refine ⟨hb.1,fun r q ho => ?_⟩;have hn:κ' b=none:=by
  cases hk:κ' b with
  | none=>rfl
  | some p=>
   obtain ⟨r',q'⟩:=p;exfalso;obtain ⟨hr,_⟩:=hb.2 r' q' hk;obtain ⟨pm,kC,awL⟩:=hS r' hr;have bR:=(aZ kC).1;rcases h.mine b r' q' hk with ⟨rfl,q2,hf⟩|jw|⟨pm',h1,h2⟩
   ·have h1:=h.npe;have h2:=h.npf;omega
   ·rw [h.npe] at jw;omega
   ·rw [kC] at h1;cases h1;rw [awL] at h2;cases h2
 unfold gu at ho;rw [hn] at ho;simp only at ho;split at ho;case isFalse=>cases ho
 case isTrue hc=>
 cases hk:κ b with
 | none=>simp [hk] at ho
 | some p=>
  obtain ⟨r',q'⟩:=p;have hi:=hc.1;rw [h.ki] at hi;simp only [fA,hk] at hi;simp only [hk,af,iN] at ho;split at ho;case isTrue=>cases ho
  case isFalse hd=>
  cases ho;split at hi
  ·split at hi<;>cases hi
  ·split at hi
   ·assumption
   ·cases hi
end
end Go.Fw
namespace Go.Fw
mutual
def CT.noro:CT->Bool
 | .d=>true
 | .sl (.own _) e=>CT.noros e
 | _=>false
def CT.noros:aa CT->Bool
 | []=>true
 | c::cs=>c.noro&&CT.noros cs
end
mutual
theorem ac3 {P:aa Nat->Prop}:∀{c:CT},c.noro=true->c.allS P
 | .d,_=>by simp [CT.allS]
 | .sl (.own _) e,h=>by simp only [CT.noro] at h;simp only [CT.allS];exact uh h
 | .sl (.ro _) e,h=>by simp [CT.noro] at h
 | .sl .dead e,h=>by simp [CT.noro] at h
theorem uh {P:aa Nat->Prop}:∀{cs:aa CT},CT.noros cs=true->CT.allSs P cs
 | [],_=>by simp [CT.allSs]
 | c::cs,h=>by
  simp only [CT.noros,aU] at h;simp only [CT.allSs];exact ⟨ac3 h.1,uh h.2⟩
end
theorem agN {κ κ':aQ} {w w':aA} {S:aa Nat}:∀{cs:aa CT} {p p':Pl} {j:Nat} {get:Nat->aj} {as:aa A},qD cs=true->aB κ w cs p j get as->aB κ' w' (CT.roizes S cs) p' j get as
 | [],_,_,_,_,[],_,_=>by simp [CT.roizes,aB]
 | [],_,_,_,_,_::_,_,h=>by simp [aB] at h
 | _::_,_,_,_,_,[],_,h=>by simp [aB] at h
 | .sl m e::cs,_,_,_,_,_::_,hd,_=>by simp [qD] at hd
 | .d::cs,p,p',j,get,a::as,hd,h=>by
  simp only [CT.roizes,CT.roize,aB] at h ⊢;refine ⟨?_,agN (by simpa [qD] using hd) h.2⟩;cases a with
  | v y=>simpa only [RC] using h.1
  | s xs=>simp [RC] at h
theorem ac4:∀{cs cs':aa CT},CT.shps cs=CT.shps cs'->qD cs'=true->qD cs=true
 | [],[],_,_=>rfl
 | c::cs,c'::cs',h,hd=>by
  simp only [CT.shps,Rs] at h;simp only [qD,Kh,aU] at hd ⊢;refine ⟨?_,ac4 h.2 hd.2⟩;cases c with
  | d=>rfl
  | sl m e=>cases c' with
   | d=>simp [CT.shp] at h
   | sl m' e'=>simp at hd
 | [],_::_,h,_=>by simp [CT.shps] at h
 | _::_,[],h,_=>by simp [CT.shps] at h
section
variable {κ:aQ} {w:aA} {S:aa Nat}
mutual
theorem arQ:∀{c:CT} {p p':Pl} {x:aj} {a:A},c.live=true->c.nown=true->c.allS (fun S0=>∀r,r∈S0->r∈S)->RC κ w c p x a->RC κ w (c.roize S) p' x a
 | .d,_,_,_,.v _,_,_,_,h=>by simp only [CT.roize,RC] at h ⊢;exact h
 | .sl (.own k) e,p,p',x,.s xs,hl,hn,hs,h=>by simp [CT.nown] at hn
 | .sl (.ro S0) e,p,p',x,.s xs,hl,hn,hs,h=>by
  simp only [CT.roize,RC,CT.allS,CT.live,CT.nown] at h hs hl hn ⊢;obtain ⟨ao,cap,hx,cZ,hc⟩:=h;refine ⟨ao,cap,hx,cZ,?_⟩;rcases hc with hn'|⟨b,o,rfl,hb,hr,he⟩
  ·exact .inl hn'
  ·exact .inr ⟨b,o,rfl,FJ hb hs.1,by rw [dD];exact hr,al6 hl hn hs.2 he⟩
 | .sl .dead e,_,_,_,_,hl,_,_,_=>by simp [CT.live] at hl
 | .d,_,_,_,.s _,_,_,_,h=>by simp [RC] at h
 | .sl (.ro _) _,_,_,_,.v _,_,_,_,h=>by simp [RC] at h
 | .sl (.own _) _,_,_,_,.v _,_,_,_,h=>by simp [RC] at h
theorem al5:∀{cs:aa CT} {p p':Pl} {j:Nat} {get:Nat->aj} {as:aa A},CT.lives cs=true->CT.nowns cs=true->CT.allSs (fun S0=>∀r,r∈S0->r∈S) cs ->
  aB κ w cs p j get as->aB κ w (CT.roizes S cs) p' j get as
 | [],_,_,_,_,[],_,_,_,_=>by simp [CT.roizes,aB]
 | c::cs,p,p',j,get,a::as,hl,hn,hs,h=>by
  simp only [CT.roizes,CT.allSs,CT.lives,CT.nowns,aB,aU] at h hs hl hn ⊢;exact ⟨arQ (p:=p.at j) hl.1 hn.1 hs.1 h.1,al5 hl.2 hn.2 hs.2 h.2⟩
 | [],_,_,_,_,_::_,_,_,_,h=>by simp [aB] at h
 | _::_,_,_,_,_,[],_,_,_,h=>by simp [aB] at h
theorem al6:∀{e:aa CT} {p p':Pl} {j:Nat} {get:Nat->aj} {xs:aa (aa A)},CT.lives e=true->CT.nowns e=true->CT.allSs (fun S0=>∀r,r∈S0->r∈S) e ->
  dz κ w e p j get xs->dz κ w (CT.roizes S e) p' j get xs
 | e,_,_,_,_,[],_,_,_,_=>by simp [dz]
 | e,p,p',j,get,x::xs,hl,hn,hs,h=>by
  simp only [dz] at h ⊢;exact ⟨al5 hl hn hs h.1,by rw [dD];exact al6 hl hn hs h.2⟩
end
theorem avy {p p':Pl} {get get':Nat->aj} {cs:aa CT} {j j':Nat} {as:aa A} (hl:CT.lives cs=true) (hn:CT.nowns cs=true)
  (hs:CT.allSs (fun S0=>∀r,r∈S0->r∈S) cs) (hg:∀i,i<cs.length->get' (j'+i)=get (j+i)) (h:aB κ w cs p j get as):aB κ w (CT.roizes S cs) p' j' get' as:=by
 induction cs generalizing j j' as with
 | nil=>cases as with
  | nil=>simp [CT.roizes,aB]
  | cons=>simp [aB] at h
 | cons c cs ih=>
  cases as with
  | nil=>simp [aB] at h
  | cons a as=>
   simp only [CT.roizes,CT.allSs,CT.lives,CT.nowns,aB,aU] at h hs hl hn ⊢;refine ⟨?_,ih hl.2 hn.2 hs.2 (fun i hi => ?_) h.2⟩
   ·have:=hg 0 (by simp);simp at this;rw [this];exact arQ (p:=p.at j) hl.1 hn.1 hs.1 h.1
   ·have:=hg (i+1) (by simpa using hi);simpa [Nat.add_comm,Rp,kF] using this
end
def rdX (P:aS) (g:Nat->TT) (ty:TypeId) (i:Nat) (ag:Bool) (cs:aa CT) (x:iL):ah (OX × aa Nat):=
 match rM P g ty i x with
 | some X=>if X.ag=ag/\CT.lives X.cs=true/\CT.beqs (CT.shps X.cs) (CT.shps cs)=true then some (X,if qD cs then [] else if CT.nowns X.cs then CT.srcss X.cs else X.t::CT.srcss X.cs) else none
 | none=>none
section
variable {P:aS} {ac:Nat->Nat->aj} {κ0 κ:aQ} {w0 w:aA} {N:Nat} {tg g:Nat->TT} {sv s:Nat->AV} {a:Act}
theorem arR (h:R ac κ0 w0 κ w N tg sv (gm a)) (hL:Le g s tg sv) {ty:TypeId} {i:Nat} {ag:Bool} {cs:aa CT} {x:iL} {X:OX} {S:aa Nat} (hx:rdX P g ty i ag cs x=some (X,S)) {as:aa A} (hg:X.get s=some as)
  {r0:ah Nat} {gG:aa Nat->ah Pl} {Sall:aa Nat} (hS:∀r,r∈S->r∈Sall) (oq:∀r,r0=some r->r∉Sall):pI (fA κ r0 gG Sall) w i (a.eval x) as (.rd ag cs):=by
 unfold rdX at hx;split at hx;case h_2=>cases hx
 case h_1 X' hX=>
 split at hx;case isFalse=>cases hx
 case isTrue hc=>
 obtain ⟨Nr,lJ,aFm⟩:=hc;simp only [aN,di] at hx;obtain ⟨rfl,hSe⟩:=hx;obtain ⟨vs,h1,h2,h3,_⟩:=rO h hL hX hg;have ard:=CT.beqs_eq aFm;have bN:X'.cs.length=cs.length:=by
  have:=congrArg (fun l=>(CT.roizes [] l).length) rfl (a₁:=X'.cs) (a₂:=X'.cs);have h4:=Cj [] ard;have:=congrArg List.length h4;simpa [dD] using this
 refine ⟨vs,by rw [<-Nr];exact h1,by rw [h2,bN],?_⟩;rw [<-Cj [i] ard];cases hD:qD cs with
 | true=>exact agN (ac4 ard hD) h3
 | false=>
  rw [hD] at hSe;simp only [iK,if_false] at hSe;by_cases hnw:CT.nowns X'.cs=true
  ·rw [if_pos hnw] at hSe;subst hSe;have h5:=avy (S:=Sall) (p':=(i,[])) (j':=0) (get':=fun k=>vs.getD k undef) lJ hnw (by
    have:=kG (S:=Sall) (cs:=X'.cs) fun r hr=>hS r hr
    exact this) (fun k _=>rfl) h3
   exact RF (fun b hb=>⟨arP oq hb i,Same.refl w b⟩) h5
  rw [if_neg hnw] at hSe;subst hSe;have h5:=Ru (S:=Sall) (p':=(i,[])) (j':=0) (get':=fun k=>vs.getD k undef) lJ (hS _ (by simp)) (by
   have:=kG (S:=Sall) (cs:=X'.cs) fun r hr=>hS r (by simp [hr])
   exact this) (fun k _=>rfl) h3
  exact RF (fun b hb=>⟨arP oq hb i,Same.refl w b⟩) h5
end
structure AX where
 gets:List ((Nat->AV)->Option (List A))
 rd:List Nat
 S:List Nat
 sp:Option (Nat × PM × Operand)
def sV (g:Nat->TT) (pm:PM) (x:iL):ah (((Nat->AV)->ah (aa A)) × aa Nat):=
 match pm,x with
 | .tk _ _,.tmp t=>some (iO t,[t])
 | .mt _ _,.tmp t=>some (iO t,[t])
 | .mp _,.tmp t=>match g t with
  | .ptr r [] 0 _=>some (iO r,[r])
  | .box _=>some (iO t,[t])
  | _=>none
 | _,_=>none
def Ck (P:aS) (g:Nat->TT):Nat->aa PM->aa iL->aa TypeId->ah AX
 | _,[],[],[]=>some ⟨[],[],[],none⟩
 | i,pm::ps,x::xs,ty::tys=>match Ck P g (i+1) ps xs tys with
  | some Y=>match pm with
   | .rd ag cs=>match rdX P g ty i ag cs x with
    | some (X,S)=>some ⟨X.get::Y.gets,X.rd++Y.rd,S++Y.S,Y.sp⟩
    | none=>none
   | pm=>match Y.sp,sV g pm x with
    | none,some (f,rd)=>some ⟨f::Y.gets,rd++Y.rd,Y.S,some (i,pm,x)⟩
    | _,_=>none
  | none=>none
 | _,_,_,_=>none
def oz (s:Nat->AV):aa ((Nat->AV)->ah (aa A))->ah (aa (aa A))
 | []=>some []
 | f::fs=>match f s,oz s fs with
  | some as,some r=>some (as::r)
  | _,_=>none
section
variable {P:aS} {ac:Nat->Nat->aj} {κ0 κ:aQ} {w0 w:aA} {N:Nat} {tg g:Nat->TT} {sv s:Nat->AV} {a:Act}
theorem uY (h:R ac κ0 w0 κ w N tg sv (gm a)) (hL:Le g s tg sv) {r0:ah Nat} {gG:aa Nat->ah Pl} {Sall:aa Nat} (oq:∀r,r0=some r->r∉Sall) :
  ∀{i:Nat} {ps:aa PM} {xs:aa iL} {tys:aa TypeId} {Y:AX} {ass:aa (aa A)},Ck P g i ps xs tys=some Y->oz s Y.gets=some ass->(∀r,r∈Y.S->r∈Sall) ->
   (∀j pm x f rd as,Y.sp=some (j,pm,x)->sV g pm x=some (f,rd)->f s=some as->pI (fA κ r0 gG Sall) w j (a.eval x) as pm) ->
   xs.length=ps.length/\ass.length=ps.length/\(∀k pm x as,ps[k]?=some pm->(xs.map a.eval)[k]?=some x->ass[k]?=some as->pI (fA κ r0 gG Sall) w (i+k) x as pm) /\
   (∀j pm x,Y.sp=some (j,pm,x)->i<=j/\ps[j-i]?=some pm/\pm.mut=true/\xs[j-i]?=some x/\∃f rd as,sV g pm x=some (f,rd)/\f s=some as/\ass[j-i]?=some as) /\
   (∀k pm,ps[k]?=some pm->pm.mut=true->∃x,Y.sp=some (i+k,pm,x))
 | i,[],[],[],Y,ass,hx,hg,_,_=>by
  simp only [Ck,aN] at hx
  subst hx
  simp only [oz,aN] at hg
  subst hg
  simp
 | i,pm::ps,x::xs,ty::tys,Y,ass,hx,hg,hS,sH=>by
  simp only [Ck] at hx
  split at hx
  case h_2=>cases hx
  case h_1 Y' hY=>
  split at hx
  ·rename_i ag cs
   split at hx
   case h_2=>cases hx
   case h_1 X S hX=>
   cases hx
   simp only [oz] at hg
   split at hg
   case h_2=>cases hg
   case h_1 as ass' jU qm=>
   cases hg
   obtain ⟨k1,k2,k3,k4,k5⟩:=uY h hL oq hY qm (fun r hr=>hS r (by simp [hr])) (fun j pm x f rd as hj=>sH j pm x f rd as hj)
   refine ⟨by simp [k1],by simp [k2],fun k pm' x' as' h1 h2 h3 => ?_,fun j pm' x' hj => ?_,fun k pm' h1 h2 => ?_⟩
   ·cases k with
    | zero=>
     simp at h1 h2 h3
     subst h1 h2 h3
     exact arR h hL hX jU (fun r hr=>hS r (by simp [hr])) oq
    | succ k=>
     rw [show i+(k+1)=i+1+k from by omega]
     exact k3 k pm' x' as' (by simpa using h1) (by simpa using h2) (by simpa using h3)
   ·obtain ⟨g1,g2,g3,g4,f,rd,as',g5,g6,g7⟩:=k4 j pm' x' hj
    have e1:j-i=(j-(i+1))+1:=by omega
    rw [e1]
    exact ⟨by omega,by simpa using g2,g3,by simpa using g4,f,rd,as',g5,g6,by simpa using g7⟩
   ·cases k with
    | zero=>simp at h1;subst h1;simp [PM.mut] at h2
    | succ k=>
     obtain ⟨x',Ca⟩:=k5 k pm' (by simpa using h1) h2
     exact ⟨x',by rw [show i+(k+1)=i+1+k from by omega];exact Ca⟩
  ·rename_i aFn
   split at hx
   case h_2=>cases hx
   case h_1 f rd Xo hsg=>
   cases hx
   simp only [oz] at hg
   split at hg
   case h_2=>cases hg
   case h_1 as ass' jU qm=>
   cases hg
   obtain ⟨k1,k2,k3,k4,k5⟩:=uY h hL oq hY qm (fun r hr=>hS r hr) (fun j pm x f rd as hj=>by rw [Xo] at hj;cases hj)
   have awL:pm.mut=true:=by
    cases pm with
    | rd ag cs=>exact absurd rfl (aFn ag cs)
    | _=>rfl
   refine ⟨by simp [k1],by simp [k2],fun k pm' x' as' h1 h2 h3 => ?_,fun j pm' x' hj => ?_,fun k pm' h1 h2 => ?_⟩
   ·cases k with
    | zero=>
     simp at h1 h2 h3
     subst h1 h2 h3
     exact sH i pm x f rd as rfl hsg jU
    | succ k=>
     rw [show i+(k+1)=i+1+k from by omega]
     exact k3 k pm' x' as' (by simpa using h1) (by simpa using h2) (by simpa using h3)
   ·simp only [aN,di] at hj
    obtain ⟨rfl,rfl,rfl⟩:=hj
    exact ⟨eX _,by simp,awL,by simp,f,rd,as,hsg,jU,by simp⟩
   ·cases k with
    | zero=>simp at h1;subst h1;exact ⟨x,rfl⟩
    | succ k=>
     obtain ⟨x',Ca⟩:=k5 k pm' (by simpa using h1) h2
     rw [Xo] at Ca;cases Ca
 | _,[],_::_,_,_,_,hx,_,_,_=>by simp [Ck] at hx
 | _,[],[],_::_,_,_,hx,_,_,_=>by simp [Ck] at hx
 | _,_::_,[],_,_,_,hx,_,_,_=>by simp [Ck] at hx
 | _,_::_,_::_,[],_,_,hx,_,_,_=>by simp [Ck] at hx
end
end Go.Fw
namespace Go.Fw
section
variable {ac:Nat->Nat->aj} {κ0 κ κ':aQ} {w0 w w':aA} {N:Nat} {tg tg1 tg2:Nat->TT} {sv sv1:Nat->AV} {tm tm1:Nat->aj}
theorem af6 (h:R ac κ0 w0 κ w N tg sv tm) (h':R ac κ0 w0 κ' w' N tg1 sv1 tm1) {r:Nat} {mods M X:aa Nat} (aDr:r∈mods)
  (hX:∀u,u∉X->tg1 u=(tg u).kill mods M/\tg2 u=(tg u).killS r mods M/\sv1 u=sv u/\tm1 u=tm u) (hX2:∀u,u∈X->tg2 u=tg1 u)
  (hb:(∃cb,tg r = .box cb)->(∃cb',tg1 r = .box cb')/\tm1 r=tm r):R ac κ0 w0 κ' w' N tg2 sv1 tm1:=by
 by_cases Mx:∃cb,tg r = .box cb
 ·obtain ⟨⟨cb',aFo⟩,qf⟩:=hb Mx;obtain ⟨cb,hcb⟩:=Mx;have hk:=h.tr r;rw [hcb] at hk;simp only [TR] at hk;obtain ⟨as2,b,_,k2,_⟩:=hk;refine al3 h' (r:=r) (b:=b) aFo (by rw [qf];exact k2) fun u => ?_
  by_cases hu:u∈X
  ·exact .inl (hX2 u hu)
  ·obtain ⟨e1,e2,e3,e4⟩:=hX u hu;by_cases fJ:(tg u).killS r mods M=(tg u).kill mods M
   ·left;rw [e1,e2,fJ]
   ·right;obtain ⟨off',S',hp,nY⟩:=Kr fJ;have hu:=h.tr u;rw [hp] at hu;simp only [TR] at hu;obtain ⟨is',B,O,u1,u2,_,_,u5⟩:=hu;rw [hcb] at u2;simp only [iA,rb,k2,dx] at u2;have pg:is'=[]/\B=b/\O=0:=by
     cases is' with
     | nil=>simp only [wk,aN,di] at u2;exact ⟨rfl,u2.1.symm,u2.2.symm⟩
     | cons=>simp [wk] at u2
    obtain ⟨rfl,rfl,rfl⟩:=pg;refine ⟨by rw [e1,hp];simp [TT.kill,aDr],?_,off',S',by rw [e2,nY,hp],by rw [e3];exact u1,by rw [e4];exact u5⟩;apply sM;intro cZ;have:=h.out u cZ;rw [hp] at this;cases this
 ·have:tg2=tg1:=by
   funext u;by_cases hu:u∈X
   ·exact hX2 u hu
   ·obtain ⟨e1,e2,_,_⟩:=hX u hu;rw [e1,e2];by_cases fJ:(tg u).killS r mods M=(tg u).kill mods M
    ·exact fJ
    ·exfalso;obtain ⟨off',S',hp,_⟩:=Kr fJ;have hu:=h.tr u;rw [hp] at hu;simp only [TR] at hu;obtain ⟨is',B,O,u1,u2,_⟩:=hu;have:rb (tg r) (tm r)=none:=by
      cases hTr:tg r with
      | box cb=>exact absurd ⟨cb,hTr⟩ Mx
      | _=>simp [rb]
     rw [this] at u2;cases is' with
     | nil=>simp [iA,wk] at u2
     | cons=>simp [iA,wk] at u2
  rw [this];exact h'
end
def eG (Sall:aa Nat):RS->TT
 | .u=>.dead
 | .one ag cs=>.val ag (CT.mapSs (fun _=>Sall) cs)
 | .tup ws cs=>.tup ws (CT.mapSs (fun _=>Sall) cs)
 | .bx cs=>.box (CT.mapSs (fun _=>Sall) cs)
def RS.cs:RS->aa CT
 | .u=>[]
 | .one _ cs=>cs
 | .tup _ cs=>cs
 | .bx cs=>cs
def jm (res:aa A):RS->AV
 | .u=>.n
 | _=>.v res []
def af7 (sg:aL) (Sall:aa Nat):Bool:=
 (CT.srcss sg.res.cs).all (fun r=>match sg.ps[r]? with
  | some pm=>!pm.mut
  | none=>false)&&iD (CT.mapSs (fun _=>Sall) sg.res.cs)
theorem Cm {P:Nat->Prop}:(∀{c:CT},(∀r,r∈c.srcs->P r)->c.allS (fun S=>∀r,r∈S->P r))/\(∀{cs:aa CT},(∀r,r∈CT.srcss cs->P r)->CT.allSs (fun S=>∀r,r∈S->P r) cs):=⟨one,many⟩
where
 one {P:Nat->Prop}:∀{c:CT},(∀r,r∈c.srcs->P r)->c.allS (fun S=>∀r,r∈S->P r)
  | .d,_=>by simp [CT.allS]
  | .sl (.ro S0) e,h=>by
   simp only [CT.srcs,bG] at h
   simp only [CT.allS]
   exact ⟨fun r hr=>h r (.inl hr),many fun r hr=>h r (.inr hr)⟩
  | .sl (.own _) e,h=>by simp only [CT.srcs] at h;simp only [CT.allS];exact many h
  | .sl .dead e,h=>by simp only [CT.srcs] at h;simp only [CT.allS];exact many h
 many {P:Nat->Prop}:∀{cs:List CT},(∀r,r∈CT.srcss cs->P r)->CT.allSs (fun S=>∀r,r∈S->P r) cs
  | [],_=>by simp [CT.allSs]
  | c::cs,h=>by
   simp only [CT.srcss,bG] at h
   simp only [CT.allSs]
   exact ⟨one fun r hr=>h r (.inl hr),many fun r hr=>h r (.inr hr)⟩
section
variable {ac:Nat->Nat->aj} {κ κi κ':aQ} {w w':aA} {np d:Nat} {r0:ah Nat} {gG:aa Nat->ah Pl} {gB:aa Nat->ah (aa Nat)} {Sall:aa Nat} {sg:aL}
theorem CallR.row (h:CallR κ κi κ' w w' np d r0 gG gB Sall sg) (hS:∀r,r∈CT.srcss sg.res.cs->∃pm,sg.ps[r]?=some pm/\pm.mut=false) {get get':Nat->aj} {as:aa A} (hr:aB κ' w' sg.res.cs (np,[]) 0 get as) (hg:∀i,i<sg.res.cs.length->get' i=get i) :
  aB (gu κ κi κ' np d w.heap.size r0 gB) w' (CT.mapSs (fun _=>Sall) sg.res.cs) (d,[]) 0 get' as:=by
 refine fQ (f:=fun _=>Sall) (P:=fun S=>∀r,r∈S->∃pm,sg.ps[r]?=some pm/\pm.mut=false) (fun S hS b hb=>⟨h.res_ro hS hb,Same.refl w' b⟩) (Cm.2 hS) (fun i hi b q hb=>⟨?_,Same.refl w' b⟩) (fun i hi=>by simpa using hg i hi) hr;unfold gu;rw [hb];simp
theorem CallR.tr (h:CallR κ κi κ' w w' np d r0 gG gB Sall sg) (aT:af7 sg Sall=true) {v:aj} {res:aa A} (hr:aoC κ' w' np v res sg.res) (tg':Nat->TT) (sv:Nat->AV) (tm:Nat->aj) (jB:sv d=jm res sg.res) (qf:tm d=v) :
  TR ac (gu κ κi κ' np d w.heap.size r0 gB) w' tg' sv tm d (eG Sall sg.res):=by
 simp only [af7,aU,bW] at aT;have hS:∀r,r∈CT.srcss sg.res.cs->∃pm,sg.ps[r]?=some pm/\pm.mut=false:=by
  intro r hr;have:=aT.1 r hr;split at this
  ·rename_i pm kC;exact ⟨pm,kC,by simpa using this⟩
  ·cases this
 have cB:=fun {get get':Nat->aj} {as:aa A}=>h.row hS (get:=get) (get':=get') (as:=as)
 have ji:=aT.2;cases kS:sg.res with
 | u=>simp [eG,TR]
 | one ag cs=>
  rw [kS] at hr jB ji cB;simp only [RS.cs] at ji cB;obtain ⟨vs,h1,h2,h3⟩:=hr;simp only [eG,TR,jB,qf,jm];exact ⟨res,vs,rfl,h1,by rw [gq];exact h2,gp ji,cB h3 fun i _=>rfl⟩
 | tup ws cs=>
  rw [kS] at hr jB ji cB;simp only [RS.cs] at ji cB;obtain ⟨xs,vs,h1,h2,h3,h4⟩:=hr;simp only [eG,TR,jB,qf,jm];exact ⟨res,xs,vs,rfl,h1,h2,by rw [gq];exact h3,cB h4 fun i _=>rfl⟩
 | bx cs=>
  rw [kS] at hr jB ji cB;simp only [RS.cs] at ji cB;obtain ⟨b,h1,h2,h3,h4,h5⟩:=hr;simp only [eG,TR,jB,qf,jm];refine ⟨res,b,rfl,h1,h2,?_,by rw [gq];exact h4,gp ji,cB h5 fun i _=>rfl⟩;unfold gu;rw [h3];simp
theorem aw4 {cs:aa CT} {r j base n:Nat} {p:aa Nat} {get get':Nat->aj} {as:aa A} (hn:n=cs.length) (eD:CT.noros cs=true) (hg:∀i,i<cs.length->get' i=get (base+i)) (h:aB κ w cs (r,p) base get as) :
  aB (fA κ (some r) (ym p base n j) Sall) w cs (j,[]) 0 get' as:=by
 have:=fQ (f:=id) (P:=fun _=>False) (κ:=κ) (w:=w) (κ':=fA κ (some r) (ym p base n j) Sall) (w':=w) (p':=(j,[])) (j':=0) (get':=get') (fun S hS=>hS.elim) (uh eD) (fun i hi b q hb=>⟨?_,Same.refl w b⟩) (fun i hi=>by simpa using hg i hi) h
 ·rwa [iM] at this
 ·unfold fA;rw [hb];simp only [if_true,gQ,dE];rw [aAb (by omega)]
theorem aAc {cs:aa CT} {r base:Nat} {p:aa Nat} {get get':Nat->aj} {as:aa A} {j:Nat} (hj:j≠np) (hjf:j≠FB) (eD:CT.noros cs=true) (hg:∀i,i<cs.length->get' (base+i)=get i) (h:aB κ' w' cs (j,[]) 0 get as) :
  aB (gu κ κi κ' np d w.heap.size (some r) (gBp p base)) w' cs (r,p) base get' as:=by
 have:=fQ (f:=id) (P:=fun _=>False) (κ:=κ') (w:=w') (κ':=gu κ κi κ' np d w.heap.size (some r) (gBp p base)) (w':=w') (p':=(r,p)) (j':=base) (get':=get') (fun S hS=>hS.elim) (uh eD) (fun i hi b q hb=>⟨?_,Same.refl w' b⟩) (fun i hi=>by simpa using hg i hi) h
 ·rwa [iM] at this
 ·unfold gu;rw [hb];simp only [gQ,dE,if_neg hj,if_neg hjf,gBp]
theorem CallR.old (h:CallR κ κi κ' w w' np d r0 gG gB Sall sg) {b:Nat} {r:Nat} {q:aa Nat} (hk:κ b=some (r,q)) (hg:some r=r0->gG q=none) (hS:some r≠r0->¬(r∈Sall/\q≠[])) (hd:r≠d) :
  gu κ κi κ' np d w.heap.size r0 gB b=κ b/\Same w w' b:=by
 have hi:κi b=some (FB,[0]):=by
  rw [h.ki];unfold fA;rw [hk];simp only;split
  ·rename_i he;rw [hg he]
  ·rename_i he;rw [if_neg (hS he)]
 obtain ⟨h1,h2⟩:=h.fb b _ hi;refine ⟨?_,h2⟩;unfold gu;rw [h1];have h3:=h.npf;simp only;rw [if_neg (by omega),if_pos trivial,hk];simp [iN,hd]
end
end Go.Fw
namespace Go.Fw
section
variable {ac:Nat->Nat->aj} {κ0 κ κi κ':aQ} {w0 w w':aA} {N:Nat} {tg:Nat->TT} {sv:Nat->AV} {tm:Nat->aj}
theorem al7 {w:aA} {b lo hi:Nat} (h:Wrb w b lo hi):Rdb w b lo hi:=fun o h1 h2=>(h o h1 h2).1
theorem ac5 {r:Nat} {cs e:aa CT} {sk:Sk} {is:aa Nat} {get g:Nat->aj} {ra row:aa A} (eZ:aB κ w cs (r,[]) 0 get ra) (he:iq true cs sk=some e) (hl:bZ ra sk is=some row)
  (hp:f_ w get sk is=some g) :
  aB κ w e (r,(bY [] 0 sk is).1) (bY [] 0 sk is).2 (fun k=>g (k-(bY [] 0 sk is).2)) row:=by
 cases sk with
 | nil=>
  cases is with
  | cons=>simp [bZ] at hl
  | nil=>
   simp only [iq,aN] at he;simp only [bZ,aN] at hl;simp only [f_,aN] at hp;subst he hl hp;simpa [bY] using eZ
 | cons s0 sk=>
  obtain ⟨b,o,h1,_,_,h4⟩:=C8 (bo:=none) (by simp) eZ he hl;simp only [f_,dh] at hp;obtain ⟨BO,h5,rfl⟩:=hp;simp only [dE] at h1;rw [h5] at h1;cases h1;refine mF (fun i hi _ => ?_) h4;show cellD w b _=cellD w b _;congr 1;omega
theorem CallR.place {np d:Nat} {gB:aa Nat->ah (aa Nat)} {Sall:aa Nat} {sg:aL} {r j off n:Nat} {cs c e:aa CT} {sk:Sk} {is:aa Nat} {get get' g:Nat->aj} {ra row as':aa A}
  (h:CallR κ κi κ' w w' np d (some r) (ym (bY [] 0 sk is).1 ((bY [] 0 sk is).2+off) n j) gB Sall sg) (hgB:gB=gBp (bY [] 0 sk is).1 ((bY [] 0 sk is).2+off)) (hd:r≠d) (hj:j≠np) (hjf:j≠FB)
  (eZ:aB κ w cs (r,[]) 0 get ra) (hm:CT.mens [r] cs=false) (he:iq true cs sk=some e) (hl:bZ ra sk is=some row) (hp:f_ w get sk is=some g)
  (bq:∀S,(∀m,m∈[r]->m∉S)->∀b,bg κ w S b->bg (gu κ κi κ' np d w.heap.size (some r) gB) w' S b/\Same w w' b)
  (hn:n=c.length) (yj:off+n<=e.length) (hce:CT.unpins ((e.drop off).take n)=CT.unpins c) (eD:CT.noros c=true)
  (arf:aB κ' w' c (j,[]) 0 (fun k=>g (off+k)) as') (zN:∀k,k<cs.length->get' k=get k) :
  aB (gu κ κi κ' np d w.heap.size (some r) gB) w' cs (r,[]) 0 get' (lN ra sk is (splice row off as')):=by
 have cB:=ac5 eZ he hl hp;have agm:as'.length=n:=by rw [dJ arf,hn]
 have gM:∀k,k<n->((e.drop off).take n)[k]?=e[off+k]?:=fun k hk=>by rw [qK hk,pE]
 have hS:=eQ (M:=[r]) (P:=fun S=>∀b,bg κ w S b->bg (gu κ κi κ' np d w.heap.size (some r) gB) w' S b/\Same w w' b) (fun S hS b hb=>bq S hS b hb) hm;have hme:=eQ (M:=[r]) (P:=fun S=>∀b,bg κ w S b->bg (gu κ κi κ' np d w.heap.size (some r) gB) w' S b/\Same w w' b) (fun S hS b hb=>bq S hS b hb) (Az hm he)
 -- the row,new
 have uS:∀getr:Nat->aj,(∀k,k<e.length->getr ((bY [] 0 sk is).2+k)=g k) ->
   aB (gu κ κi κ' np d w.heap.size (some r) gB) w' e (r,(bY [] 0 sk is).1) (bY [] 0 sk is).2 getr (splice row off as'):=by
  intro getr gZ;have hrl:=dJ cB;refine nK (by rw [lm (by omega)];exact hrl) fun k ck a hc ha => ?_
  rw [nQ (by omega)] at ha;have hk:=(aZ hc).1;by_cases bn:off<=k/\k<off+n
  ·rw [if_neg (by omega),if_pos (by omega)] at ha;have oU:=aAc (κ:=κ) (κi:=κi) (w:=w) (d:=d) (np:=np) (r:=r) (base:=(bY [] 0 sk is).2+off) (p:=(bY [] 0 sk is).1) (get':=fun q=>getr q) hj hjf eD (fun i hi=>by
    have:=gZ (off+i) (by omega)
    rw [show (bY [] 0 sk is).2+off+i=(bY [] 0 sk is).2+(off+i) from by omega];exact this) arf
   rw [<-hgB] at oU;have ayf:=fV.2 oU;rw [<-hce] at ayf;have aDs:=fV.1 ayf;have hh:=ib aDs (k:=k-off) (c:=ck) (a:=a) (by rw [gM _ (by omega),show off+(k-off)=k from by omega];exact hc) ha;rw [show (bY [] 0 sk is).2+off+(k-off)=(bY [] 0 sk is).2+k from by omega] at hh;exact hh
  ·have G7:row[k]?=some a:=by
    by_cases h1:k<off
    ·rwa [if_pos h1] at ha
    ·rw [if_neg h1,if_neg (by omega)] at ha;exact ha
   have h0:=ib cB hc G7;have hg2:getr ((bY [] 0 sk is).2+k)=g ((bY [] 0 sk is).2+k-(bY [] 0 sk is).2):=by rw [gZ k hk];congr 1;omega
   rw [hg2];refine vN (allS_nth hme hc) (fun b q hb => ?_) h0;refine h.old hb (fun _=>RG fun m hm gK => ?_) (fun aX=>absurd rfl aX) hd;simp only [Pl.at] at gK;rw [lK] at gK;have h5:=List.IsPrefix.trans gK (List.prefix_refl _);have h6:=(List.prefix_append_right_inj (bY [] 0 sk is).1).1 h5;obtain ⟨t,ht⟩:=h6;simp at ht;omega
 cases sk with
 | nil=>
  cases is with
  | cons=>simp [bZ] at hl
  | nil=>
   simp only [iq,aN] at he;simp only [bZ,aN] at hl;simp only [f_,aN] at hp;subst he hl hp;have:=uS get' (fun k hk=>by simpa [bY] using zN k hk);simpa [bY,lN] using this
 | cons s0 sk=>
  obtain ⟨b,o,h1,h2,h3,h4⟩:=C8 (bo:=none) (by simp) eZ he hl;have Q6:=hp;simp only [f_,dh] at Q6;obtain ⟨BO,h5,hg⟩:=Q6;simp only [dE] at h1;rw [h5] at h1;cases h1;obtain ⟨hB1,hB2⟩:=h.old h2 (fun _=>RG fun m hm gK=>by
   have:=gK.length_le
   rw [dP,Ka] at this
   omega) (fun aX=>absurd rfl aX) hd
  have wy:b<w.heap.size:=by
   apply sM;intro cZ;rw [h.col0 b cZ] at h2;cases h2
  have key:=I6 (κ':=gu κ κi κ' np d w.heap.size (some r) gB) (w':=w') (x':=splice row off as') (bo:=none) (B:=b) (O:=o+(bY [] 0 (s0::sk) is).2) (by simp) eZ he hl (by simpa using h5) hS
   (fun b' q hb aX ji=>h.old hb (fun _=>RG fun m hm gK=>ji (off+m) (by omega) (by rw [<-kF];exact gK)) (fun aX=>absurd rfl aX) hd)
   (fun {b} hb=>pz hb h.fr.size) hB1 (fun o' y _ hy=>hB2.2 o' y hy) (hB2.wrb h3) (fun o' pq=>by
    have:o'=o:=by omega
    subst this
    refine uS _ fun k hk => ?_
    have h6:=hB2.cD (al7 h3) (show o'+(bY [] 0 (s0::sk) is).2<=o'+((bY [] 0 (s0::sk) is).2+k) by omega) (by omega)
    rw [h6,<-hg]
    show cellD w b _=cellD w b _
    congr 1;omega)
  exact mF (fun i _ hi=>zN i (by omega)) key
where
 allS_nth {P:List Nat->Prop}:∀{cs:List CT} {k:Nat} {c:CT},CT.allSs P cs->cs[k]?=some c->c.allS P
  | c::cs,0,c',h,hc=>by simp at hc;subst hc;simp only [CT.allSs] at h;exact h.1
  | c::cs,k+1,c',h,hc=>by simp only [CT.allSs] at h;exact allS_nth h.2 (by simpa using hc)
  | [],_,_,_,hc=>by simp at hc
end
end Go.Fw
namespace Go.Fw
def BI (c c':aa CT):Bool:=CT.beqs (CT.unpins c) (CT.unpins c')&&CT.noros c&&CT.noros c'&&CT.lives c'
theorem ui {c c':aa CT} (h:BI c c'=true):CT.unpins c=CT.unpins c'/\CT.noros c=true/\CT.noros c'=true:=by
 simp only [BI,aU] at h;exact ⟨CT.beqs_eq h.1.1.1,h.1.1.2,h.1.2⟩
theorem Jc {c c':aa CT} (h:BI c c'=true):c.length=c'.length:=by
 have:=congrArg List.length (ui h).1;simpa [iR] using this
theorem RH {κ:aQ} {w:aA} {c c':aa CT} {p:Pl} {j:Nat} {get:Nat->aj} {as:aa A} (h:BI c c'=true) (hr:aB κ w c p j get as):aB κ w c' p j get as:=by
 have h1:=fV.2 hr;rw [(ui h).1] at h1;exact fV.1 h1
mutual
def CT.roS:CT->aa Nat
 | .d=>[]
 | .sl (.ro S) e=>S++CT.roSs e
 | .sl _ e=>CT.roSs e
def CT.roSs:aa CT->aa Nat
 | []=>[]
 | c::cs=>c.roS++CT.roSs cs
end
mutual
theorem avz:∀{c:CT} {X:aa Nat},(∀m,m∈c.roS->m∈X)->c.allS (fun S=>∀m,m∈S->m∈X)
 | .d,_,_=>by simp [CT.allS]
 | .sl (.ro S) e,X,h=>by
  simp only [CT.roS,bG] at h;simp only [CT.allS];exact ⟨fun m hm=>h m (.inl hm),pJ fun m hm=>h m (.inr hm)⟩
 | .sl (.own _) e,X,h=>by
  simp only [CT.roS] at h;simp only [CT.allS];exact pJ h
 | .sl .dead e,X,h=>by
  simp only [CT.roS] at h;simp only [CT.allS];exact pJ h
theorem pJ:∀{cs:aa CT} {X:aa Nat},(∀m,m∈CT.roSs cs->m∈X)->CT.allSs (fun S=>∀m,m∈S->m∈X) cs
 | [],_,_=>by simp [CT.allSs]
 | c::cs,X,h=>by
  simp only [CT.roSs,bG] at h;simp only [CT.allSs];exact ⟨avz fun m hm=>h m (.inl hm),pJ fun m hm=>h m (.inr hm)⟩
end
def X9 (c c':aa CT):Bool:=CT.beqs (CT.unpins (CT.mapSs (fun _=>[]) c)) (CT.unpins c')&&CT.lives c'&&(CT.srcss (CT.unpins c')).isEmpty&&iD (CT.unpins c')
inductive SK where
 | no
 | tk (t:Nat)
 | mt (r:Nat) (sk:Sk) (off n t j:Nat)
 | mp (r:Nat) (cr cs:List CT) (j:Nat)
def SK.r0:SK->ah Nat
 | .no=>none
 | .tk t=>some t
 | .mt r _ _ _ _ _=>some r
 | .mp r _ _ _=>some r
def spK (N:Nat) (g:Nat->TT):ah (Nat × PM × iL)->ah SK
 | none=>some .no
 | some (_,.tk ag cs,.tmp t)=>match g t with
  | .val ag' cs'=>if ag'=ag/\BI cs' cs=true/\t<N then some (.tk t) else none
  | _=>none
 | some (j,.mt ag cs,.tmp t)=>match g t with
  | .val ag' cs'=>if ag'=ag/\BI cs' cs=true/\CT.mens [t] cs'=false/\t<N then some (.mt t [] 0 cs.length t j) else none
  | .alias ag' ca r sk off _=>match (g r).cts with
   | some cr=>match iq true cr sk with
    | some e=>if ag'=ag/\ca.length=cs.length/\off+cs.length<=e.length/\BI ((e.drop off).take cs.length) cs=true/\CT.mens [r] cr=false/\r<N then some (.mt r sk off cs.length t j) else none
    | none=>none
   | none=>none
  | _=>none
 | some (j,.mp cs,.tmp t)=>match g t with
  | .ptr r [] 0 _=>match g r with
   | .box cr=>if X9 cr cs=true/\r<N then some (.mp r cr cs j) else none
   | _=>none
  | .box cr=>if X9 cr cs=true/\t<N then some (.mp t cr cs j) else none
  | _=>none
 | _=>none
def aoN (t:Nat) (s:Nat->AV):ah (aa Nat):=
 match s t with
 | .v _ is=>some is
 | _=>none
def SK.post (rs:RS) (res:aa A) (outs:aa (aa A)) (s:Nat->AV):SK->ah (aa AV)
 | .no=>some [jm res rs]
 | .tk _=>some [jm res rs]
 | .mt r sk off _ t j=>match aoN t s,iO r s,outs[j]? with
  | some is,some ra,some o=>match bZ ra sk is with
   | some row=>some [jm res rs,.v (lN ra sk is (splice row off o)) []]
   | none=>none
  | _,_,_=>none
 | .mp _ _ _ j=>match outs[j]? with
  | some o=>some [jm res rs,.v o []]
  | none=>none
def SK.all (S:aa Nat):SK->aa Nat
 | .mp _ cr _ _=>S++CT.roSs cr
 | _=>S
def SK.up (g:Nat->TT) (S:aa Nat):SK->aa (Nat × TT)
 | .no=>[]
 | .tk t=>[(t,.dead)]
 | .mt r _ _ _ _ _=>[(r,g r)]
 | .mp r cr cs _=>[(r,.box (CT.mapSs (fun _=>S++CT.roSs cr) (CT.unpins cs)))]
def SK.kl (d:Nat):SK->TT->TT
 | .no=>fun T=>T.kill [d] []
 | .tk t=>fun T=>T.kill [d,t] [t]
 | .mt r _ _ _ _ _=>fun T=>T.killS r [d,r] [r]
 | .mp r _ _ _=>fun T=>T.killS r [d,r] [r]
def SK.rd:SK->aa Nat
 | .no=>[]
 | .tk t=>[t]
 | .mt r _ _ _ t _=>[r,t]
 | .mp r _ _ _=>[r]
def abM (P:aS) (sigs:FuncId->ah aL) (N:Nat) (g:Nat->TT) (o:bP):ah Stp:=
 match o.dst,o.op with
 | some d,.call c=>match c.callee with
  | .value (.func K)=>match P.funcs[K]?,sigs K with
   | some fn,some sg=>match Ck P g 0 sg.ps c.args.toList fn.params.toList with
    | some Y=>match spK N g Y.sp with
     | some k=>
      if d < N ∧ (fn.name == "runtime.NumGoroutine") = false ∧ fn.body.isNone = false ∧ (∀ r, k.r0 = some r → r ∉ k.all Y.S ∧ r ≠ d) ∧ af7 sg (k.all Y.S) = true ∧ sg.ps.length < FB then
       some ⟨(d,eG (k.all Y.S) sg.res)::k.up g Y.S,k.kl d,Y.rd++k.rd,.call K sg (fun s=>oz s Y.gets) fun res outs s=>k.post sg.res res outs s⟩
      else none
     | none=>none
    | none=>none
   | _,_=>none
  | _=>none
 | _,_=>none
theorem ac6 {P:aS} {o:bP} {a:Act} {w:aA} {K:FuncId} {fn:Func} {args:Array iL} {ats:Array TypeId} (ho:o.op = .call { callee:=.value (.func K),args,argTypes:=ats })
  (hf : P.funcs[K]? = some fn) (hn : (fn.name == "runtime.NumGoroutine") = false) (hb : fn.body.isNone = false) : (execOp a.eval o).run P w = .ok (.enter K (args.map a.eval)) w := by
 unfold execOp;rw [ho];show ((do let d <-Deferred.ofValue (a.eval (.func K)) (args.map a.eval);invoke d.target d.args):Sem Next).run P w=_;have h1:(Deferred.ofValue (a.eval (.func K)) (args.map a.eval)).run P w = .ok { target:=.fn (.func K) #[],args := #[]++args.map a.eval } w:=rfl;rw [aI h1];show (callFunc K ((#[]++args.map a.eval) ++ #[])).run P w=_;unfold callFunc;have h2:(program:Sem aS).run P w = .ok P w:=rfl;rw [aI h2];simp only [hf,hn,hb,iK,if_false,Array.empty_append,Array.append_empty];rfl
section
variable {P:aS} {κ:aQ} {w:aA} {o:bP} {a:Act} {next:Act->aA->Prop} {Q:Exit->Act->aA->Prop}
theorem yU {K:FuncId} {args:Array iL} {sg:aL} {ass:aa (aa A)} {res:aa A} {outs:aa (aa A)} {r0:ah Nat} {gG:aa Nat->ah Pl} {gB:aa Nat->ah (aa Nat)} {Sall:aa Nat} {d:Nat}
  (pu:(execOp a.eval o).run P w = .ok (.enter K (args.map a.eval)) w) (CY:Good P K sg ass res outs) (kz:∀b,w.heap.size<=b->κ b=none)
  (Ns:args.toList.length=sg.ps.length) (Bp:ass.length=sg.ps.length) (ji:sg.ps.length<FB)
  (hG:∀q p,r0≠none->gG q=some p->∃pm,sg.ps[p.1]?=some pm/\pm.mut=true)
  (G8:∀k pm x as,sg.ps[k]?=some pm->(args.toList.map a.eval)[k]?=some x->ass[k]?=some as->pI (fA κ r0 gG Sall) w k x as pm)
  (k:∀v κ' w',CallR κ (fA κ r0 gG Sall) κ' w w' sg.ps.length d r0 gG gB Sall sg->aoC κ' w' sg.ps.length v res sg.res ->
   (∀i pm x as,sg.ps[i]?=some pm->(args.toList.map a.eval)[i]?=some x->outs[i]?=some as->aoB κ' w' i x as pm)->next (a.put o.dst v) w'):o.wp P a w next Q:=by
 unfold Oper.wp;rw [pu,Oper.upon_enter];have aq9:Mine sg (fA κ r0 gG Sall):=by
  intro b r q hb;unfold fA at hb;cases hk:κ b with
  | none=>simp [hk] at hb
  | some p=>
   obtain ⟨r',q'⟩:=p;simp only [hk] at hb;split at hb
   ·rename_i he;split at hb
    ·rename_i p hp;cases hb;exact .inr (hG q' _ (by rw [<-he];simp) hp)
    ·cases hb;exact .inl rfl
   ·split at hb
    ·cases hb
    ·cases hb;exact .inl rfl
 have:=CY (fA κ r0 gG Sall) w (args.toList.map a.eval) (fun b hb=>by unfold fA;rw [kz b hb]) aq9 (by simpa using Ns) Bp G8;have hcv:(args.toList.map a.eval).toArray=args.map a.eval:=by rw [<-XI]
 rw [hcv] at this;refine Calls.mono this fun e w' he => ?_
 obtain ⟨v,κ',rfl,hp⟩:=he;exact k v κ' w' ⟨rfl,kz,hp.col,hp.fr,hp.fb,hp.mine,rfl,ji⟩ hp.res hp.outs
end
end Go.Fw
namespace Go.Fw
section
variable {P:aS} {ac:Nat->Nat->aj} {κ0 κ:aQ} {w0 w:aA} {N:Nat} {tg g:Nat->TT} {sv s:Nat->AV} {a:Act}
theorem agO (h:R ac κ0 w0 κ w N tg sv (gm a)) {t j:Nat} {ag:Bool} {cs cs':aa CT} (ht:tg t = .val ag cs') (aT:BI cs' cs=true) {as:aa A} {is:aa Nat} (hs:sv t = .v as is) {Sall:aa Nat} {pm:PM}
  (kC:pm = .tk ag cs\/pm = .mt ag cs):pI (fA κ (some t) (ym [] 0 cs.length j) Sall) w j (gm a t) as pm:=by
 have h1:=h.tr t;rw [ht] at h1;simp only [TR] at h1;obtain ⟨as',vs,g1,g2,g3,_,g5⟩:=h1;rw [hs] at g1;cases g1;have:=aw4 (κ:=κ) (w:=w) (Sall:=Sall) (j:=j) (n:=cs.length) (get':=fun k=>vs.getD k undef) rfl (ui aT).2.2 (fun i _=>by simp) (RH aT g5);rcases kC with rfl|rfl
 ·exact ⟨vs,g2,by rw [g3,Jc aT],this⟩
 ·exact ⟨vs,g2,by rw [g3,Jc aT],this⟩
theorem ayU (h:R ac κ0 w0 κ w N tg sv (gm a)) {t r j off:Nat} {sk:Sk} {S0:aa Nat} {ag:Bool} {ca cs cr e:aa CT} (ht:tg t = .alias ag ca r sk off S0) (hr:(tg r).cts=some cr) (he:iq true cr sk=some e)
  (hl:ca.length=cs.length) (yj:off+cs.length<=e.length) (aT:BI ((e.drop off).take cs.length) cs=true) {as:aa A} {is:aa Nat} (hs:sv t = .v as is) {Sall:aa Nat} :
  pI (fA κ (some r) (ym (bY [] 0 sk is).1 ((bY [] 0 sk is).2+off) cs.length j) Sall) w j (gm a t) as (.mt ag cs):=by
 have h1:=h.tr t;rw [ht] at h1;simp only [TR] at h1;obtain ⟨as',is',vs,gf,ra,row,g1,g2,g3,gl,g4,g5,g6,g7,g8,g9,g10,g11,g12⟩:=h1;rw [hs] at g1;cases g1;have eZ:=h.root hr g10;have cB:=ac5 eZ he g11 g5;have h2:=mJ cs.length (mI off cB);rw [hl] at g12 g3;rw [<-g12] at h2;have h3:=RH aT h2;exact ⟨vs,g2,g3,aw4 rfl (ui aT).2.2 (fun i hi=>by
  show vs.getD i undef=gf ((bY [] 0 sk is).2+off+i-(bY [] 0 sk is).2)
  rw [show (bY [] 0 sk is).2+off+i-(bY [] 0 sk is).2=off+i from by omega]
  exact (g9 i (by omega)).1.symm) h3⟩
theorem aAd (h:R ac κ0 w0 κ w N tg sv (gm a)) {r j:Nat} {cr cs:aa CT} (hr:tg r = .box cr) (aT:X9 cr cs=true) {as:aa A} {is:aa Nat} (hs:sv r = .v as is) {Sall:aa Nat} (hrS:r∉Sall) (hS:∀m,m∈CT.roSs cr->m∈Sall) {x:aj} (hx:x=gm a r) :
  pI (fA κ (some r) (fun q=>some (j,q)) Sall) w j x as (.mp cs):=by
 have h1:=h.tr r;rw [hr] at h1;simp only [TR] at h1;obtain ⟨as',b,g1,g2,g3,g4,g5,g6,g7⟩:=h1;rw [hs] at g1;cases g1;subst hx;simp only [X9,aU] at aT;have ry:=CT.beqs_eq aT.1.1.1;have hl:cr.length=cs.length:=by
  have:=congrArg List.length ry;simpa [iR,gq] using this
 refine ⟨b,g2,g3,?_,by rw [<-hl];exact g5,?_⟩
 ·unfold fA;rw [g4];simp
 ·have:=fQ (f:=fun _=>[]) (P:=fun S=>∀m,m∈S->m∈Sall) (κ:=κ) (w:=w) (κ':=fA κ (some r) (fun q=>some (j,q)) Sall) (w':=w) (p':=(j,[])) (j':=0) (get':=cellD w b) (fun S hS b' hb=>⟨⟨hb.1,fun r' q hq => ?_⟩,Same.refl w b'⟩) (pJ hS) (fun i hi b' q hb=>⟨?_,Same.refl w b'⟩) (fun i hi=>rfl) g7
  ·have h2:=fV.2 this;rw [ry] at h2;exact fV.1 h2
  ·exfalso;unfold fA at hq;cases hk:κ b' with
   | none=>simp [hk] at hq
   | some p=>
    obtain ⟨r2,q2⟩:=p;obtain ⟨h3,h4⟩:=hb.2 _ _ hk;have h5:=hS _ h3;have h6:r2≠r:=by rintro rfl;exact hrS h5
    simp [hk,h6,h5,h4] at hq
  ·unfold fA;rw [hb];simp
theorem Jd (h:R ac κ0 w0 κ w N tg sv (gm a)) {κ':aQ} {w':aA} {np d:Nat} {r0:ah Nat} {gG:aa Nat->ah Pl} {gB:aa Nat->ah (aa Nat)} {Sall:aa Nat} {sg:aL} (hc:CallR κ (fA κ r0 gG Sall) κ' w w' np d r0 gG gB Sall sg)
  (hd:d<N) (oq:∀r,r0=some r->r<N/\r≠d) {v:aj} {tg':Nat->TT} {sv':Nat->AV}
  (sF:∀r,r≠d->some r≠r0->tg' r=(tg r).kill (d::r0.toList) r0.toList) (jB:∀r,r≠d->some r≠r0->sv' r=sv r)
  (hTd:TR ac (gu κ (fA κ r0 gG Sall) κ' np d w.heap.size r0 gB) w' tg' sv' (upd (gm a) d v) d (tg' d))
  (hT0:∀r,r0=some r->TR ac (gu κ (fA κ r0 gG Sall) κ' np d w.heap.size r0 gB) w' tg' sv' (upd (gm a) d v) r (tg' r)) :
  R ac κ0 w0 (gu κ (fA κ r0 gG Sall) κ' np d w.heap.size r0 gB) w' N tg' sv' (upd (gm a) d v):=by
 have h1:=hc.npe;have h2:=hc.npf;refine az5 h hd (fun r hr=>(oq r hr).1) rfl (by omega) hc.col hc.fr hc.fb (fun b q hb => ?_) sF jB (fun r hr _=>upd_ne _ _ _ hr) hTd (fun r hr _=>hT0 r hr);rcases hc.mine b FB q hb with ⟨_,h3⟩|h3|⟨pm,h3,_⟩
 ·exact h3
 ·omega
 ·have:=(aZ h3).1;omega
theorem avA (h:R ac κ0 w0 κ w N tg sv (gm a)) {κ':aQ} {w':aA} {np d r:Nat} {gG:aa Nat->ah Pl} {gB:aa Nat->ah (aa Nat)} {Sall:aa Nat} {sg:aL} (hc:CallR κ (fA κ (some r) gG Sall) κ' w w' np d (some r) gG gB Sall sg) :
  ∀S,(∀m,m∈[r]->m∉S)->∀b,bg κ w S b->bg (gu κ (fA κ (some r) gG Sall) κ' np d w.heap.size (some r) gB) w' S b/\Same w w' b:=by
 intro S hS b hb;have aX:∀r' q,κ b=some (r',q)->r'≠r:=fun r' q hk he=>hS r (by simp) (by rw [<-he];exact (hb.2 r' q hk).1)
 have hi:fA κ (some r) gG Sall b=none\/fA κ (some r) gG Sall b=some (FB,[0]):=by
  unfold fA;cases hk:κ b with
  | none=>exact .inl rfl
  | some p=>
   obtain ⟨r',q⟩:=p;simp only;rw [if_neg (fun he=>aX r' q hk (by simpa using he))];split
   ·exact .inl rfl
   ·exact .inr rfl
 have aHV:=hc.npf;have clr:∀r' q,(κ b).bind (iN d)=some (r',q)->r'∈S/\q≠[]:=by
  intro r' q hk;cases hκ:κ b with
  | none=>simp [hκ] at hk
  | some p=>
   simp only [hκ,af,iN] at hk;split at hk
   ·cases hk
   ·cases hk;exact hb.2 _ _ hκ
 rcases hi with hi|hi
 ·have hk:=hc.fr.kept b hb.1 hi;refine ⟨⟨pz hb.1 hc.fr.size,fun r' q ho => ?_⟩,acX (fun _=>pz hb.1 hc.fr.size) hk.2⟩;unfold gu at ho;rw [hk.1] at ho;simp only at ho;rw [if_pos ⟨hi,hb.1⟩] at ho;exact clr r' q ho
 ·have hk:=hc.fb b _ hi;refine ⟨⟨hk.2.1 hb.1,fun r' q ho => ?_⟩,hk.2⟩;unfold gu at ho;rw [hk.1] at ho;simp only at ho;rw [if_neg (by omega),if_pos trivial] at ho;exact clr r' q ho
end
end Go.Fw
namespace Go.Fw
theorem Hr {f:aa Nat->aa Nat}:∀{cs:aa CT},iD cs=true->iD (CT.mapSs f cs)=true
 | [],_=>by simp [CT.mapSs,iD]
 | c::cs,h=>by
  simp only [iD,Kh,aU] at h;have ih:=Hr (f:=f) (cs:=cs) (by simpa [iD] using h.2);simp only [CT.mapSs,iD,Kh,aU];refine ⟨?_,by simpa [iD] using ih⟩;cases c with
  | d=>simp [CT.mapS]
  | sl m e=>
   cases m with
   | own p=>
    cases p with
    | none=>simp [CT.mapS]
    | some _=>have:=h.1;simp at this
   | _=>simp [CT.mapS]
section
variable {P:aS} {ac:Nat->Nat->aj} {κ0 κ:aQ} {w0 w:aA} {N:Nat} {tg g:Nat->TT} {sv s:Nat->AV} {a:Act}
theorem X_ (h:R ac κ0 w0 κ w N tg sv (gm a)) {κ':aQ} {w':aA} {np d r j off n:Nat} {sk:Sk} {is:aa Nat} {c cr e:aa CT} {g0:Nat->aj} {ra row as':aa A} {Sall:aa Nat} {sg:aL}
  (hc:CallR κ (fA κ (some r) (ym (bY [] 0 sk is).1 ((bY [] 0 sk is).2+off) n j) Sall) κ' w w' np d (some r) (ym (bY [] 0 sk is).1 ((bY [] 0 sk is).2+off) n j) (gBp (bY [] 0 sk is).1 ((bY [] 0 sk is).2+off)) Sall sg)
  (hd:r≠d) (hj:j<np) (hr:(tg r).cts=some cr) (hm:CT.mens [r] cr=false) (he:iq true cr sk=some e) (om:sv r = .v ra []) (hl:bZ ra sk is=some row) (hp:f_ w (rg w (tg r) (gm a r)) sk is=some g0)
  (hn:n=c.length) (yj:off+n<=e.length) (hce:CT.unpins ((e.drop off).take n)=CT.unpins c) (eD:CT.noros c=true) (arf:aB κ' w' c (j,[]) 0 (fun k=>g0 (off+k)) as')
  {tg':Nat->TT} {sv':Nat->AV} {tm':Nat->aj} (sF:tg' r=tg r) (jB:sv' r = .v (lN ra sk is (splice row off as')) []) (qf:tm' r=gm a r) :
  TR ac (gu κ (fA κ (some r) (ym (bY [] 0 sk is).1 ((bY [] 0 sk is).2+off) n j) Sall) κ' np d w.heap.size (some r) (gBp (bY [] 0 sk is).1 ((bY [] 0 sk is).2+off))) w' tg' sv' tm' r (tg r):=by
 have eZ:=h.root hr om;have h1:=hc.npf;have VE:=fun (get':Nat->aj) zN=>hc.place (get':=get') rfl hd (by omega) (by omega) eZ hm he hl hp (avA h hc) hn yj hce eD arf zN
 have hk:=h.tr r;cases hT:tg r with
 | dead=>rw [hT] at hr;simp [TT.cts] at hr
 | alias=>rw [hT] at hr;simp [TT.cts] at hr
 | ptr=>rw [hT] at hr;simp [TT.cts] at hr
 | tup=>rw [hT] at hr;simp [TT.cts] at hr
 | val ag cs=>
  rw [hT] at hk hr VE;simp only [TT.cts,aN] at hr;subst hr;simp only [TR] at hk;obtain ⟨as,vs,g1,g2,g3,g4,g5⟩:=hk;simp only [TR,jB,qf];refine ⟨_,vs,rfl,g2,g3,g4,VE _ fun k _ => ?_⟩;simp [rg,g2]
 | box cs=>
  rw [hT] at hk hr VE;simp only [TT.cts,aN] at hr;subst hr;simp only [TR] at hk;obtain ⟨as,b,g1,g2,g3,g4,g5,g6,g7⟩:=hk;obtain ⟨e1,e2⟩:=hc.old g4 (fun _=>RG fun m hm gK=>by
   have:=gK.length_le
   rw [dP,Ka,bQ] at this
   omega) (fun aX=>absurd rfl aX) hd
  have ng:∀k,k<cs.length->cellD w' b k=cellD w b k:=fun k hk=>e2.cD (al7 g5) (Ay _) hk
  simp only [TR,jB,qf];refine ⟨_,b,rfl,g2,e2.1 g3,by rw [e1];exact g4,e2.wrb g5,fun k j' c' e' iW => ?_,VE _ fun k hk => ?_⟩
  ·have:=(aZ iW).1;rw [ng k this];exact g6 k j' c' e' iW
  ·rw [ng k hk];simp [rg,g2]
end
inductive SpC (N:Nat) (g:Nat->TT):Option (Nat × PM × Operand)->SK->Prop
 | no:SpC N g none .no
 | tk {j t:Nat} {ag:Bool} {cs cs':List CT} (ht:g t = .val ag cs') (aT:BI cs' cs=true) (lG:t<N):SpC N g (some (j,.tk ag cs,.tmp t)) (.tk t)
 | mv {j t:Nat} {ag:Bool} {cs cs':List CT} (ht:g t = .val ag cs') (aT:BI cs' cs=true) (hm:CT.mens [t] cs'=false) (lG:t<N):SpC N g (some (j,.mt ag cs,.tmp t)) (.mt t [] 0 cs.length t j)
 | ma {j t r off:Nat} {ag:Bool} {cs ca cr e:List CT} {sk:Sk} {S:List Nat} (ht:g t = .alias ag ca r sk off S) (hr:(g r).cts=some cr) (he:iq true cr sk=some e) (hl:ca.length=cs.length) (yj:off+cs.length<=e.length)
   (aT:BI ((e.drop off).take cs.length) cs=true) (hm:CT.mens [r] cr=false) (yf:r<N):SpC N g (some (j,.mt ag cs,.tmp t)) (.mt r sk off cs.length t j)
 | mp {j t r:Nat} {cs cr:List CT} (hr:g r = .box cr) (aT:X9 cr cs=true) (yf:r<N) (ht:t=r\/∃S,g t = .ptr r [] 0 S):SpC N g (some (j,.mp cs,.tmp t)) (.mp r cr cs j)
theorem ac7 {N:Nat} {g:Nat->TT} {sp:ah (Nat × PM × iL)} {k:SK} (h:spK N g sp=some k):SpC N g sp k:=by
 unfold spK at h;split at h
 ·cases h;exact .no
 ·split at h
  ·rename_i ag cs t ag' cs' hT;split at h
   ·rename_i hc;cases h;obtain ⟨rfl,h1,h2⟩:=hc;exact .tk hT h1 h2
   ·cases h
  ·cases h
 ·split at h
  ·rename_i ag' cs' hT;split at h
   ·rename_i hc;cases h;obtain ⟨rfl,h1,h2,h3⟩:=hc;exact .mv hT h1 h2 h3
   ·cases h
  ·rename_i ag' ca r sk off S0 hT;split at h
   ·rename_i cr hr;split at h
    ·rename_i e he;split at h
     ·rename_i hc;cases h;obtain ⟨rfl,h1,h2,h3,h4,h5⟩:=hc;exact .ma hT hr he h1 h2 h3 h4 h5
     ·cases h
    ·cases h
   ·cases h
  ·cases h
 ·split at h
  ·rename_i r S0 hT;split at h
   ·rename_i cr hr;split at h
    ·rename_i hc;cases h;exact .mp hr hc.1 hc.2 (.inr ⟨_,hT⟩)
    ·cases h
   ·cases h
  ·rename_i cr hT;split at h
   ·rename_i hc;cases h;exact .mp hT hc.1 hc.2 (.inl rfl)
   ·cases h
  ·cases h
 ·cases h
theorem aoO {P:aS} {sigs:FuncId->ah aL} {N:Nat} {g:Nat->TT} {o:bP} {S:Stp} (h:abM P sigs N g o=some S):ek P N o g S:=by
 unfold abM at h;split at h;case h_2=>cases h
 case h_1 d c hd ho=>
 obtain ⟨callee,args,ats⟩:=c;simp only at h;split at h;case h_2=>cases h
 case h_1 _ K=>
 split at h;case h_2=>cases h
 case h_1 fn sg hf hsg=>
 split at h;case h_2=>cases h
 case h_1 Y hY=>
 split at h;case h_2=>cases h
 case h_1 k hk=>
 split at h;case isFalse=>cases h
 case isTrue hc=>
 obtain ⟨hdN,arh,ari,oq,kS,ji⟩:=hc;cases h;intro ac κ0 κ w0 w tg sv s a v next Q hN hR hL hv bU;simp only [Eff.rel] at hv;obtain ⟨ass,res,outs,Fu,CY,jo⟩:=hv;have pu:=ac6 (a:=a) (w:=w) ho hf arh ari;have sH:=ac7 hk;generalize BH:Y.sp=sp at sH;cases sH with
 | no=>
  have Xo:=BH;obtain ⟨k1,k2,k3,_,_⟩:=uY (r0:=none) (gG:=fun _=>none) (Sall:=Y.S) hR hL (fun r hr=>by cases hr) hY Fu (fun r hr=>hr) (fun j pm x f rd as hj=>by rw [Xo] at hj;cases hj);simp only [SK.post,aN] at jo;subst jo;refine yU (d:=d) (gB:=fun _=>none) pu CY hR.col k1 k2 ji (fun q p aX=>absurd rfl aX) (fun k pm x as h1 h2 h3=>by simpa using k3 k pm x as h1 h2 h3) fun vv κ' w' qj lh _ => ?_
  have jk:=Jd hR qj hdN (fun r hr=>by cases hr) (v:=vv) (tg':=aG (fun t=>(tg t).kill [d] []) [(d,eG Y.S sg.res)]) (sv':=aG sv [(d,jm res sg.res)])
   (fun r hr _=>by simp [aG,hr]) (fun r hr _=>by simp [aG,hr]) (by
    have:=qj.tr (ac:=ac) kS lh (aG (fun t=>(tg t).kill [d] []) [(d,eG Y.S sg.res)]) (aG sv [(d,jm res sg.res)]) (upd (gm a) d vv) (by simp [aG]) (by simp [upd])
    simpa [aG] using this) (fun r hr=>by cases hr)
  refine bU vv w' _ _ _ (by rw [hd,p8 (a:=a) (by rw [hN];exact hdN)];exact jk) (fun t=>rfl) (fun t=>rfl)
 | @tk j t ag cs cs' hT aT lG=>
  obtain ⟨e1,e2⟩:=hL.at hT (by simp);have Fx:∀r,some t=some r->r∉Y.S:=fun r hr=>(oq r (by simpa [SK.r0] using hr)).1
  obtain ⟨k1,k2,k3,k4,_⟩:=uY (r0:=some t) (gG:=ym [] 0 cs.length j) (Sall:=Y.S) hR hL Fx hY Fu (fun r hr=>hr) (fun j' pm x f rd as hj ku yJ=>by
   rw [BH] at hj
   simp only [aN,di] at hj
   obtain ⟨rfl,rfl,rfl⟩:=hj
   simp only [sV,aN,di] at ku
   obtain ⟨rfl,_⟩:=ku
   obtain ⟨is,hs⟩:=cO yJ
   exact agO hR e1 aT (by rw [e2,hs]) (.inl rfl))
  obtain ⟨_,yK,hmj,_,_⟩:=k4 _ _ _ BH;simp only [SK.post,aN] at jo;subst jo;refine yU (d:=d) (gB:=fun _=>none) pu CY hR.col k1 k2 ji (fun q p _ hp => ?_) (fun k pm x as h1 h2 h3=>by simpa using k3 k pm x as h1 h2 h3) fun vv κ' w' qj lh _ => ?_
  ·have:p.1=j:=by
    unfold ym at hp;repeat' split at hp
    all_goals first
     | cases hp;rfl
     | cases hp
   exact ⟨_,by rw [this];simpa using yK,hmj⟩
  ·have fD:t≠d:=(oq t rfl).2;have jk:=Jd hR qj hdN (fun r hr=>by cases hr;exact ⟨lG,fD⟩) (v:=vv) (tg':=aG (fun u=>(tg u).kill [d,t] [t]) [(d,eG Y.S sg.res),(t,.dead)]) (sv':=aG sv [(d,jm res sg.res)])
    (fun r hr aX=>by
     have Br:r≠t:=fun he=>aX (by rw [he])
     simp only [aG,if_neg hr,if_neg Br];rfl) (fun r hr _=>by simp [aG,hr]) (by
     have:=qj.tr (ac:=ac) kS lh (aG (fun u=>(tg u).kill [d,t] [t]) [(d,eG Y.S sg.res),(t,.dead)]) (aG sv [(d,jm res sg.res)]) (upd (gm a) d vv) (by simp [aG]) (by simp [upd])
     simpa [aG] using this) (fun r hr=>by cases hr;simp [aG,fD,TR])
   exact bU vv w' _ _ _ (by rw [hd,p8 (a:=a) (by rw [hN];exact hdN)];exact jk) (fun t=>rfl) (fun t=>rfl)
 | @mv j t ag cs cs' hT aT hm lG=>
  obtain ⟨e1,e2⟩:=hL.at hT (by simp);have Fx:∀r,some t=some r->r∉Y.S:=fun r hr=>(oq r (by simpa [SK.r0] using hr)).1
  simp only [SK.post] at jo;split at jo;case h_2=>cases jo
  case h_1 is ra oo pg J4 hoo=>
  split at jo;case h_2=>cases jo
  case h_1 row cB=>
  cases jo;have h1:=hR.tr t;rw [e1] at h1;simp only [TR] at h1;obtain ⟨as0,vs,g1,g2,g3,g4,g5⟩:=h1;obtain ⟨is2,Fy⟩:=cO J4;rw [e2,Fy] at g1;cases g1;have awM:is=[]:=by simp only [aoN,Fy,aN] at pg;exact pg.symm
  subst awM;have om:sv t = .v ra []:=by rw [e2,Fy]
  obtain ⟨k1,k2,k3,k4,_⟩:=uY (r0:=some t) (gG:=ym (bY [] 0 [] []).1 ((bY [] 0 [] []).2+0) cs.length j) (Sall:=Y.S) hR hL Fx hY Fu (fun r hr=>hr) (fun j' pm x f rd as hj ku yJ=>by
   rw [BH] at hj
   simp only [aN,di] at hj
   obtain ⟨rfl,rfl,rfl⟩:=hj
   simp only [sV,aN,di] at ku
   obtain ⟨rfl,_⟩:=ku
   obtain ⟨is,hs⟩:=cO yJ
   exact agO hR e1 aT (by rw [e2,hs]) (.inr rfl))
  obtain ⟨_,yK,hmj,J5,_⟩:=k4 _ _ _ BH;refine yU (d:=d) (gB:=gBp (bY [] 0 [] []).1 ((bY [] 0 [] []).2+0)) pu CY hR.col k1 k2 ji (fun q p _ hp => ?_) (fun k pm x as h1 h2 h3=>by simpa using k3 k pm x as h1 h2 h3) fun vv κ' w' qj lh MB => ?_
  ·have:p.1=j:=by
    unfold ym at hp;repeat' split at hp
    all_goals first
     | cases hp;rfl
     | cases hp
   exact ⟨_,by rw [this];simpa using yK,hmj⟩
  ·have fD:t≠d:=(oq t rfl).2;have akf:j<sg.ps.length:=by have:=(aZ yK).1;omega
   have oU:=MB j (.mt ag cs) (gm a t) oo (by simpa using yK) (by
    rw [kE];simp only [t_] at J5;rw [J5];rfl) hoo
   obtain ⟨vs',o1,o2,o3⟩:=oU;rw [g2] at o1;cases o1;have eZ:=X_ (c:=cs) (e:=cs') (g0:=rg w (tg t) (gm a t)) (as':=oo) (row:=row) (off:=0) hR qj fD akf (by rw [e1];rfl) hm (by simp [iq]) om cB (by simp [f_]) rfl (by rw [Jc aT];omega) (by
    rw [uI,<-Jc aT,ow];exact (ui aT).1) (ui aT).2.2 (by
    refine mF (fun i _ _ => ?_) o3
    simp [rg,e1,g2]) (tg':=aG (fun u=>(tg u).kill [d,t] [t]) [(d,eG Y.S sg.res),(t,g t)]) (sv':=aG sv [(d,jm res sg.res),(t,.v (lN ra [] [] (splice row 0 oo)) [])]) (tm':=upd (gm a) d vv)
    (by simp [aG,fD,e1,hT]) (by simp [aG,fD]) (by simp [upd,fD])
   have jk:=Jd hR qj hdN (fun r hr=>by cases hr;exact ⟨lG,fD⟩) (v:=vv) (tg':=aG (fun u=>(tg u).kill [d,t] [t]) [(d,eG Y.S sg.res),(t,g t)]) (sv':=aG sv [(d,jm res sg.res),(t,.v (lN ra [] [] (splice row 0 oo)) [])])
    (fun r hr aX=>by
     have Br:r≠t:=fun he=>aX (by rw [he])
     simp only [aG,if_neg hr,if_neg Br];rfl) (fun r hr aX=>by
     have Br:r≠t:=fun he=>aX (by rw [he])
     simp only [aG,if_neg hr,if_neg Br]) (by
     have:=qj.tr (ac:=ac) kS lh (aG (fun u=>(tg u).kill [d,t] [t]) [(d,eG Y.S sg.res),(t,g t)]) (aG sv [(d,jm res sg.res),(t,.v (lN ra [] [] (splice row 0 oo)) [])]) (upd (gm a) d vv) (by simp [aG]) (by simp [upd])
     simpa [aG] using this) (fun r hr=>by
     cases hr
     have:aG (fun u=>(tg u).kill [d,t] [t]) [(d,eG Y.S sg.res),(t,g t)] t=tg t:=by simp [aG,fD,e1,hT]
     rw [this];exact eZ)
   have J6:=af6 (tg2:=aG (fun u=>(tg u).killS t [d,t] [t]) [(d,eG Y.S sg.res),(t,g t)]) hR jk (r:=t) (mods:=[d,t]) (M:=[t]) (X:=[d,t]) (by simp) (fun u hu=>by
    simp only [aY,sO,or_false,not_or] at hu
    simp [aG,upd,hu.1,hu.2]) (fun u hu=>by
    simp only [aY,sO,or_false] at hu
    rcases hu with rfl|rfl
    ·simp [aG]
    ·simp [aG,fD]) (fun hb=>by obtain ⟨cb,hb⟩:=hb;rw [e1] at hb;cases hb)
   exact bU vv w' _ _ _ (by rw [hd,p8 (a:=a) (by rw [hN];exact hdN)];exact J6) (fun t=>rfl) (fun t=>rfl)
 | @ma j t r off ag cs ca cr e sk S0 hT hr he hl yj aT hm yf=>
  obtain ⟨e1,e2⟩:=hL.at hT (by simp);obtain ⟨jw,er2⟩:=AB hL hr;have egr:tg r=g r:=by
   have aX:g r≠.dead:=fun hg=>by rw [hg] at hr;simp [TT.cts] at hr
   exact (hL.at rfl aX).1
  have Fx:∀u,some r=some u->u∉Y.S:=fun u hu=>(oq u (by simpa [SK.r0] using hu)).1
  simp only [SK.post] at jo;split at jo;case h_2=>cases jo
  case h_1 is ra oo pg J4 hoo=>
  split at jo;case h_2=>cases jo
  case h_1 row cB=>
  cases jo;have h1:=hR.tr t;rw [e1] at h1;simp only [TR] at h1;obtain ⟨as0,is0,vs,gf,ra0,row0,g1,g2,g3,gl,g4,g5,g6,g7,g8,g9,g10,g11,g12⟩:=h1;rw [e2] at g1;have awM:is0=is:=by simp only [aoN,g1,aN] at pg;exact pg
  subst awM;have om:sv r = .v ra []:=by
   obtain ⟨is2,Fy⟩:=cO J4;rw [er2,Fy] at g10;rw [er2,Fy];cases g10;rfl
  have aFp:ra0=ra:=by rw [om] at g10;cases g10;rfl
  subst aFp;obtain ⟨k1,k2,k3,k4,_⟩:=uY (r0:=some r) (gG:=ym (bY [] 0 sk is0).1 ((bY [] 0 sk is0).2+off) cs.length j) (Sall:=Y.S) hR hL Fx hY Fu (fun r hr=>hr) (fun j' pm x f rd as hj ku yJ=>by
   rw [BH] at hj
   simp only [aN,di] at hj
   obtain ⟨rfl,rfl,rfl⟩:=hj
   simp only [sV,aN,di] at ku
   obtain ⟨rfl,_⟩:=ku
   obtain ⟨is,hs⟩:=cO yJ
   rw [g1] at hs
   cases hs
   exact ayU hR e1 jw he hl yj aT (by rw [e2,g1]))
  obtain ⟨_,yK,hmj,J5,_⟩:=k4 _ _ _ BH;refine yU (d:=d) (gB:=gBp (bY [] 0 sk is0).1 ((bY [] 0 sk is0).2+off)) pu CY hR.col k1 k2 ji (fun q p _ hp => ?_) (fun k pm x as h1 h2 h3=>by simpa using k3 k pm x as h1 h2 h3) fun vv κ' w' qj lh MB => ?_
  ·have:p.1=j:=by
    unfold ym at hp;repeat' split at hp
    all_goals first
     | cases hp;rfl
     | cases hp
   exact ⟨_,by rw [this];simpa using yK,hmj⟩
  ·have fD:r≠d:=(oq r rfl).2;have akf:j<sg.ps.length:=by have:=(aZ yK).1;omega
   have oU:=MB j (.mt ag cs) (gm a t) oo (by simpa using yK) (by
    rw [kE];simp only [t_] at J5;rw [J5];rfl) hoo
   obtain ⟨vs',o1,o2,o3⟩:=oU;rw [g2] at o1;cases o1;have eZ:=X_ (c:=cs) (e:=e) (g0:=gf) (as':=oo) (row:=row) (off:=off) hR qj fD akf jw hm he om cB g5 rfl yj (ui aT).1 (ui aT).2.2 (by
    refine mF (fun i _ hi => ?_) o3
    exact (g9 i (by omega)).1) (tg':=aG (fun u=>(tg u).kill [d,r] [r]) [(d,eG Y.S sg.res),(r,g r)]) (sv':=aG sv [(d,jm res sg.res),(r,.v (lN ra0 sk is0 (splice row off oo)) [])]) (tm':=upd (gm a) d vv)
    (by simp [aG,fD,egr]) (by simp [aG,fD]) (by simp [upd,fD])
   have jk:=Jd hR qj hdN (fun u hu=>by cases hu;exact ⟨yf,fD⟩) (v:=vv) (tg':=aG (fun u=>(tg u).kill [d,r] [r]) [(d,eG Y.S sg.res),(r,g r)]) (sv':=aG sv [(d,jm res sg.res),(r,.v (lN ra0 sk is0 (splice row off oo)) [])])
    (fun u hu aX=>by
     have Br:u≠r:=fun he=>aX (by rw [he])
     simp only [aG,if_neg hu,if_neg Br];rfl) (fun u hu aX=>by
     have Br:u≠r:=fun he=>aX (by rw [he])
     simp only [aG,if_neg hu,if_neg Br]) (by
     have:=qj.tr (ac:=ac) kS lh (aG (fun u=>(tg u).kill [d,r] [r]) [(d,eG Y.S sg.res),(r,g r)]) (aG sv [(d,jm res sg.res),(r,.v (lN ra0 sk is0 (splice row off oo)) [])]) (upd (gm a) d vv) (by simp [aG]) (by simp [upd])
     simpa [aG] using this) (fun u hu=>by
     cases hu
     have:aG (fun u=>(tg u).kill [d,r] [r]) [(d,eG Y.S sg.res),(r,g r)] r=tg r:=by simp [aG,fD,egr]
     rw [this];exact eZ)
   have J6:=af6 (tg2:=aG (fun u=>(tg u).killS r [d,r] [r]) [(d,eG Y.S sg.res),(r,g r)]) hR jk (r:=r) (mods:=[d,r]) (M:=[r]) (X:=[d,r]) (by simp) (fun u hu=>by
    simp only [aY,sO,or_false,not_or] at hu
    simp [aG,upd,hu.1,hu.2]) (fun u hu=>by
    simp only [aY,sO,or_false] at hu
    rcases hu with rfl|rfl
    ·simp [aG]
    ·simp [aG,fD]) (fun hb=>by
    obtain ⟨cb,hb⟩:=hb
    exact ⟨⟨cb,by simp [aG,fD,<-egr,hb]⟩,by simp [upd,fD]⟩)
   exact bU vv w' _ _ _ (by rw [hd,p8 (a:=a) (by rw [hN];exact hdN)];exact J6) (fun t=>rfl) (fun t=>rfl)
 | @mp j t r cs cr hr aT yf ht=>
  obtain ⟨e1,e2⟩:=hL.at hr (by simp);have Fx:∀u,some r=some u->u∉Y.S++CT.roSs cr:=fun u hu=>(oq u (by simpa [SK.r0] using hu)).1
  have MC:=aT;simp only [X9,aU] at MC;have ry:=CT.beqs_eq MC.1.1.1;have awN:CT.srcss (CT.unpins cs)=[]:=List.isEmpty_iff.1 MC.1.2;simp only [SK.post] at jo;split at jo;case h_2=>cases jo
  case h_1 oo hoo=>
  cases jo;have h1:=hR.tr r;rw [e1] at h1;simp only [TR] at h1;obtain ⟨ra,b,g1,g2,g3,g4,g5,g6,g7⟩:=h1;have hxr:gm a t=gm a r:=by
   rcases ht with rfl|⟨S0,hT⟩
   ·rfl
   ·obtain ⟨t1,t2⟩:=hL.at hT (by simp);have h1:=hR.tr t;rw [t1] at h1;simp only [TR] at h1;obtain ⟨is,B,O,u1,u2,_,_,u5⟩:=h1;rw [e1] at u2;simp only [iA,rb,g2,dx] at u2;cases is with
    | nil=>
     simp only [wk,aN,di] at u2;rw [u5,g2,<-u2.1,<-u2.2]
    | cons=>simp [wk] at u2
  obtain ⟨k1,k2,k3,k4,_⟩:=uY (r0:=some r) (gG:=fun q=>some (j,q)) (Sall:=Y.S++CT.roSs cr) hR hL Fx hY Fu (fun r hr=>jl _ hr) (fun j' pm x f rd as hj ku yJ=>by
   rw [BH] at hj
   simp only [aN,di] at hj
   obtain ⟨rfl,rfl,rfl⟩:=hj
   have gZ:∃is,s r = .v as is:=by
    rcases ht with rfl|⟨S0,hT⟩
    ·simp only [sV,hr,aN,di] at ku
     obtain ⟨rfl,_⟩:=ku
     exact cO yJ
    ·simp only [sV,hT,aN,di] at ku
     obtain ⟨rfl,_⟩:=ku
     exact cO yJ
   obtain ⟨is,hs⟩:=gZ
   exact aAd hR e1 aT (by rw [e2,hs]) (Fx r rfl) (fun m hm=>jD _ hm) hxr)
  obtain ⟨_,yK,hmj,J5,_⟩:=k4 _ _ _ BH;refine yU (d:=d) (gB:=fun q=>some q) pu CY hR.col k1 k2 ji (fun q p _ hp => ?_) (fun k pm x as h1 h2 h3=>by simpa using k3 k pm x as h1 h2 h3) fun vv κ' w' qj lh MB => ?_
  ·cases hp;exact ⟨_,by simpa using yK,hmj⟩
  ·have fD:r≠d:=(oq r rfl).2;have akf:j<sg.ps.length:=by have:=(aZ yK).1;omega
   have oU:=MB j (.mp cs) (gm a t) oo (by simpa using yK) (by
    rw [kE];simp only [t_] at J5;rw [J5];rfl) hoo
   obtain ⟨b',o1,o2,o3,o4,o5⟩:=oU;have hko:gu κ (fA κ (some r) (fun q=>some (j,q)) (Y.S++CT.roSs cr)) κ' sg.ps.length d w.heap.size (some r) (fun q=>some q) b'=some (r,[]):=by
    unfold gu;rw [o3];simp only;rw [if_neg (by omega),if_neg (by omega)]
   have eZ:TR ac (gu κ (fA κ (some r) (fun q=>some (j,q)) (Y.S++CT.roSs cr)) κ' sg.ps.length d w.heap.size (some r) (fun q=>some q)) w' (aG (fun u=>(tg u).kill [d,r] [r]) [(d,eG (Y.S++CT.roSs cr) sg.res),(r,.box (CT.mapSs (fun _=>Y.S++CT.roSs cr) (CT.unpins cs)))])
     (aG sv [(d,jm res sg.res),(r,.v oo [])]) (upd (gm a) d vv) r (.box (CT.mapSs (fun _=>Y.S++CT.roSs cr) (CT.unpins cs))):=by
    simp only [TR];refine ⟨oo,b',by simp [aG,fD],by rw [upd_ne _ _ _ fD,<-hxr,o1],o2,hko,by rw [gq,iR];exact o4,gp (Hr MC.2),?_⟩;refine fQ (f:=fun _=>Y.S++CT.roSs cr) (P:=fun S=>∀r,r∈S->∃pm,sg.ps[r]?=some pm/\pm.mut=false) (κ:=κ') (w:=w') (κ':=gu κ (fA κ (some r) (fun q=>some (j,q)) (Y.S++CT.roSs cr)) κ' sg.ps.length d w.heap.size (some r) (fun q=>some q)) (w':=w') (p':=(r,[])) (j':=0) (get':=cellD w' b') (fun S hS b hb=>⟨qj.res_ro hS hb,Same.refl w' b⟩) (Cm.2 (by rw [awN];simp)) (fun i hi b2 q hb=>⟨?_,Same.refl w' b2⟩) (fun i hi=>rfl) (fV.2 o5)
    ·unfold gu;rw [hb];simp only;rw [if_neg (by omega),if_neg (by omega)]
   have jk:=Jd hR qj hdN (fun u hu=>by cases hu;exact ⟨yf,fD⟩) (v:=vv) (tg':=aG (fun u=>(tg u).kill [d,r] [r]) [(d,eG (Y.S++CT.roSs cr) sg.res),(r,.box (CT.mapSs (fun _=>Y.S++CT.roSs cr) (CT.unpins cs)))]) (sv':=aG sv [(d,jm res sg.res),(r,.v oo [])])
    (fun u hu aX=>by
     have Br:u≠r:=fun he=>aX (by rw [he])
     simp only [aG,if_neg hu,if_neg Br];rfl) (fun u hu aX=>by
     have Br:u≠r:=fun he=>aX (by rw [he])
     simp only [aG,if_neg hu,if_neg Br]) (by
     have:=qj.tr (ac:=ac) kS lh (aG (fun u=>(tg u).kill [d,r] [r]) [(d,eG (Y.S++CT.roSs cr) sg.res),(r,.box (CT.mapSs (fun _=>Y.S++CT.roSs cr) (CT.unpins cs)))]) (aG sv [(d,jm res sg.res),(r,.v oo [])]) (upd (gm a) d vv) (by simp [aG]) (by simp [upd])
     simpa [aG] using this) (fun u hu=>by
     cases hu
     have:aG (fun u=>(tg u).kill [d,r] [r]) [(d,eG (Y.S++CT.roSs cr) sg.res),(r,.box (CT.mapSs (fun _=>Y.S++CT.roSs cr) (CT.unpins cs)))] r = .box (CT.mapSs (fun _=>Y.S++CT.roSs cr) (CT.unpins cs)):=by simp [aG,fD]
     rw [this];exact eZ)
   have J6:=af6 (tg2:=aG (fun u=>(tg u).killS r [d,r] [r]) [(d,eG (Y.S++CT.roSs cr) sg.res),(r,.box (CT.mapSs (fun _=>Y.S++CT.roSs cr) (CT.unpins cs)))]) hR jk (r:=r) (mods:=[d,r]) (M:=[r]) (X:=[d,r]) (by simp) (fun u hu=>by
    simp only [aY,sO,or_false,not_or] at hu
    simp [aG,upd,hu.1,hu.2]) (fun u hu=>by
    simp only [aY,sO,or_false] at hu
    rcases hu with rfl|rfl
    ·simp [aG]
    ·simp [aG,fD]) (fun hb=>⟨⟨_,by simp [aG,fD];rfl⟩,by simp [upd,fD]⟩)
   exact bU vv w' _ _ _ (by rw [hd,p8 (a:=a) (by rw [hN];exact hdN)];exact J6) (fun t=>rfl) (fun t=>rfl)
end Go.Fw
