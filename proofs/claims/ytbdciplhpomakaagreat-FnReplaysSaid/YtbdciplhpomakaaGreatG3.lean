/- A way of showing what a function computes: the blocks of the heap are owned by the places that lW them; this is a part of it. No conditions. -/
import Derived.Test.YtbdciplhpomakaaGreatG2
import Derived.LoopN
set_option linter.unusedSectionVars false
namespace Go.Fw
def aC8:Stp:=⟨[],fun T=>T,[],.det fun _=>none⟩
def abW (rs:aa OpR) (r:bJ) (i:Nat):Stp:=match rs[i]? with
 | some o=>o.S ((o.cb (r.sL allT i)).getD true)
 | none=>aC8
section
variable {P:aS} {sigs:FuncId->ah aL} {N:Nat} {D0l:aa TT} {jC:Nat->aa Nat} {ni:aa Hint} {l:aa bP} {rs:aa OpR} {bef:Nat->Nat->Bool} {s0:Nat->AV} {np:Nat->Bool} {px:Nat->aj} {wl:aa Bool} {vl:aa (aa AV)}
def V3 (rs:aa OpR) (r:bJ) (wl:aa Bool) (p:Nat × Bool):Prop:=wl.getD p.1 false=true/\∃t,AP rs p.1=some t/\kK (r.sL allT (p.1+1)) t=some p.2
theorem Dv {i t:Nat}:(bD rs bef (gt D0l) s0 np px wl vl).Wd i t↔t∈tY rs i:=by
 simp only [bJ.Wd,bD,tY,bG,Ke]
theorem ahb {c:Nat}:∀{pre:aa OpR} {j:Nat},idxOf c pre=some j->j<pre.length/\∃o,pre[pre.length-1-j]?=some o/\o.d=some c
 | [],j,h=>by simp [idxOf] at h
 | o::pre,j,h=>by
  simp only [idxOf] at h;split at h
  ·rename_i hd;cases h;exact ⟨by simp,o,by simp,by simpa using hd⟩
  ·obtain ⟨h1,o',h2,h3⟩:=ahb h;refine ⟨by simp;omega,o',?_,h3⟩;rw [bF,show pre.length+1-1-j=(pre.length-1-j)+1 from by omega];simpa using h2
theorem NR (aT:uZ np N D0l rs bef jC=true) (hW:∀(i:Nat) (o:OpR),rs[i]?=some o->wl.getD i false=nS rs wl ((bD rs bef (gt D0l) s0 np px wl vl).sL allT i) o) {i:Nat} {o:OpR} (ho:rs[i]?=some o) {p:Nat × Bool}
  (hg:o.gd=some p):wl.getD i false=true↔V3 rs (bD rs bef (gt D0l) s0 np px wl vl) wl p:=by
 obtain ⟨j,b⟩:=p;obtain ⟨_,_,_,_,h5,_,_⟩:=oF aT ho;obtain ⟨_,ik,⟨t,ht,rA,_,_⟩,_⟩:=h5 j b hg;have hi:=(aZ ho).1;have hs:=ar6 (r:=bD rs bef (gt D0l) s0 np px wl vl) (L:=allT) (j:=j) (t:=t) (fun k hk hw=>rA k hk (Dv.1 hw)) i ik (by simp only [bD];omega);rw [hW i o ho];unfold nS V3;rw [hg];simp only [ht];have hb:kK ((bD rs bef (gt D0l) s0 np px wl vl).sL allT i) t=kK ((bD rs bef (gt D0l) s0 np px wl vl).sL allT (j+1)) t:=by unfold kK;rw [hs]
 rw [hb];constructor
 ·intro h;simp only [aU] at h;refine ⟨h.1,t,rfl,?_⟩;have h2:=h.2;cases hbo:kK ((bD rs bef (gt D0l) s0 np px wl vl).sL allT (j+1)) t with
  | none=>rw [hbo] at h2;cases h2
  | some c=>rw [hbo] at h2;simp only [beq_iff_eq] at h2;rw [h2]
 ·rintro ⟨h1,t',nC,h2⟩;cases nC;rw [h1,h2];simp
theorem rev_at {pre post:aa OpR} {i j:Nat} (lh:rs=pre++post) (hl:pre.length=i) (hj:j<i):pre.reverse[pre.reverse.length-1-j]?=rs[j]?:=by
 rw [List.length_reverse,hl,List.getElem?_reverse (by omega)];rw [lh,rE (by omega)];congr 1;omega
theorem Yc (aT:uZ np N D0l rs bef jC=true) (hW:∀(i:Nat) (o:OpR),rs[i]?=some o->wl.getD i false=nS rs wl ((bD rs bef (gt D0l) s0 np px wl vl).sL allT i) o) {i:Nat} (hi:i<=rs.length) :
  ∀(f:Nat) (gd:ah (Nat × Bool)),(∀p,gd=some p->p.1<i/\V3 rs (bD rs bef (gt D0l) s0 np px wl vl) wl p)->∀q,q∈chR (rs.take i).reverse f gd->q.1<i/\V3 rs (bD rs bef (gt D0l) s0 np px wl vl) wl q
 | 0,_,_,q,hq=>by simp [chR] at hq
 | f+1,none,_,q,hq=>by simp [chR] at hq
 | f+1,some (j,b),h,q,hq=>by
  obtain ⟨ik,hh⟩:=h _ rfl;simp only [chR,aY] at hq;rcases hq with rfl|hq
  ·exact ⟨ik,hh⟩
  ·rw [rev_at (rs:=rs) (pre:=rs.take i) (post:=rs.drop i) (i:=i) (by simp) (by simp;omega) ik] at hq;cases Fz:rs[j]? with
   | none=>rw [Fz] at hq;simp at hq
   | some oj=>
    rw [Fz] at hq;simp only at hq;refine Yc aT hW hi f oj.gd (fun p hp => ?_) q hq;obtain ⟨_,_,_,_,h5,_,_⟩:=oF aT Fz;obtain ⟨_,yK,_⟩:=h5 p.1 p.2 hp;exact ⟨by omega,(NR aT hW Fz hp).1 hh.1⟩
theorem V4 (aT:uZ np N D0l rs bef jC=true) (hW:∀(i:Nat) (o:OpR),rs[i]?=some o->wl.getD i false=nS rs wl ((bD rs bef (gt D0l) s0 np px wl vl).sL allT i) o) {ch:aa (Nat × Bool)} (Nq:∀q,q∈ch->V3 rs (bD rs bef (gt D0l) s0 np px wl vl) wl q)
  {j:Nat} {o:OpR} (ho:rs[j]?=some o) (hg:okg ch o.gd=true):wl.getD j false=true:=by
 cases G9:o.gd with
 | none=>rw [hW j o ho];unfold nS;rw [G9]
 | some p=>
  rw [G9] at hg;simp only [okg] at hg;exact (NR aT hW ho G9).2 (Nq p (by simpa using hg))
theorem amk {t:Nat} (h:D0l[t]?=none):gt D0l t = .dead:=by unfold gt;rw [dw,h];rfl
theorem aml {t:Nat} {T:TT} (h:D0l[t]?=some T):gt D0l t=T:=by unfold gt;rw [dw,h];rfl
theorem aE5 (aT:uZ np N D0l rs bef jC=true) (hW:∀(i:Nat) (o:OpR),rs[i]?=some o->wl.getD i false=nS rs wl ((bD rs bef (gt D0l) s0 np px wl vl).sL allT i) o) {i:Nat} {o:bP} {x:OpR} {h:Hint} (hx:rs[i]?=some x)
  (hc:Du P sigs N D0l (rs.take i).reverse (jC i) h o=some x) (hw:wl.getD i false=true) {b:Bool} (hb:x.cb ((bD rs bef (gt D0l) s0 np px wl vl).sL allT i)=some b) (t:Nat) :
  x.g b t = .dead\/(x.g b t=(bD rs bef (gt D0l) s0 np px wl vl).dL (bJ.lt i) i t/\t∉jC i):=by
 have hi:=(aZ hx).1;have G9:∀p,x.gd=some p->p.1<i/\V3 rs (bD rs bef (gt D0l) s0 np px wl vl) wl p:=fun p hp=>by
  obtain ⟨_,_,_,_,h5,_,_⟩:=oF aT hx;exact ⟨(h5 p.1 p.2 hp).2.1,(NR aT hW hx hp).1 hw⟩
 have hxg:x.gd=o.guard:=(adk hc).gd;have Nq:=fun q hq=>Yc aT hW (i:=i) (by omega) ((rs.take i).reverse.length+1) o.guard (fun p hp=>G9 p (by rw [hxg,hp])) q hq
 have bN:(rs.take i).reverse.length=i:=by simp;omega
 have key:∀ch:aa (Nat × Bool),(∀q,q∈ch->V3 rs (bD rs bef (gt D0l) s0 np px wl vl) wl q)->∀t,(if (jC i).contains t then TT.dead else Jh (gt D0l) ch (rs.take i).reverse t) = .dead \/
   ((if (jC i).contains t then TT.dead else Jh (gt D0l) ch (rs.take i).reverse t)=(bD rs bef (gt D0l) s0 np px wl vl).dL (bJ.lt i) i t/\t∉jC i):=by
  intro ch Nq t;by_cases hh:(jC i).contains t=true
  ·rw [if_pos hh];exact .inl rfl
  ·rw [if_neg hh];have:=ag_ (D0:=gt D0l) (s0:=s0) (np:=np) (px:=px) (bef:=bef) (vl:=vl) (rs:=rs) (wl:=wl) (ch:=ch) (L:=bJ.lt i) (pre:=(rs.take i).reverse) (post:=rs.drop i) (by simp) (fun j hj=>by rw [bN] at hj;simp [bJ.lt,hj])
    (fun j o' _ pq hg=>V4 aT hW Nq pq hg) t
   rw [bN] at this;rcases this with h1|h1
   ·exact .inl h1
   ·exact .inr ⟨h1,by simpa using hh⟩
 unfold Du at hc;simp only at hc;split at hc
 ·rename_i c xx yy d lI hd;split at hc;case h_2=>cases hc
  case h_1 X Y C1 C2 hX hY hC1 hC2=>
  split at hc;case isFalse=>cases hc
  case isTrue hdN=>
  cases hc;simp only at hb ⊢;refine key _ (fun q hq => ?_) t;split at hq
  ·rename_i j hj;split at hq
   ·rename_i oj Fz;split at hq
    ·rename_i hgj;rcases aY.1 hq with rfl|hq
     ·obtain ⟨uE,oj',aCs,hdj⟩:=ahb hj;rw [Fz] at aCs;cases aCs;rw [bN] at uE;rw [rev_at (rs:=rs) (pre:=rs.take i) (post:=rs.drop i) (i:=i) (by simp) (by simp;omega) uE] at Fz;have hwj:=V4 aT hW (fun q hq=>(Nq q hq).2) Fz hgj;obtain ⟨_,_,_,_,_,_,h7⟩:=oF aT hx;have hdo:AP rs j=some c:=by unfold AP;rw [Fz];exact hdj
      have hcj:c∈tY rs j:=by simp [tY,hdo]
      have hs:=ar6 (r:=bD rs bef (gt D0l) s0 np px wl vl) (L:=allT) (j:=j) (t:=c) (fun k hk hw=>h7 c rfl k j hk (by omega) (Dv.1 hw) hcj) i uE (by simp only [bD];omega);refine ⟨hwj,c,hdo,?_⟩;unfold kK at hb ⊢;rw [<-hs];exact hb
     ·exact (Nq q hq).2
    ·exact (Nq q hq).2
   ·exact (Nq q hq).2
  ·exact (Nq q hq).2
 ·split at hc;case h_2=>cases hc
  case h_1 S hS=>
  cases hc;simp only at hb ⊢;exact key _ (fun q hq=>(Nq q hq).2) t
end
end Go.Fw
namespace Go.Fw
section
variable {P:aS} {sigs:FuncId->ah aL} {N:Nat} {D0l:aa TT} {jC:Nat->aa Nat} {ni:aa Hint} {l:aa bP} {rs:aa OpR} {bef:Nat->Nat->Bool} {s0:Nat->AV} {np:Nat->Bool} {px:Nat->aj} {wl:aa Bool} {vl:aa (aa AV)}
theorem avI {l:aa (Nat × TT)} {t:Nat} (h:t∈l.map (·.1)):(t,aG (fun _=>.dead) l t)∈l:=by
 induction l with
 | nil=>simp at h
 | cons p l ih=>
  simp only [aG];by_cases hp:t=p.1
  ·rw [if_pos hp,hp];exact dW
  ·rw [if_neg hp];simp only [bv,aY] at h;exact dQ _ (ih (h.resolve_left hp))
theorem ahc (y:AV) (b:Bool):(match (match y with | .v [.v (.bool c)] _=>some c|_=>none:ah Bool) with|some c=>c == b|none=>false)=(match y with | .v [.v (.bool c)] _=>c == b|_=>false):=by
 cases y with
 | p is=>rfl
 | n=>rfl
 | v as is=>
  cases as with
  | nil=>rfl
  | cons x as=>
   cases x with
   | s xs=>rfl
   | v z=>
    cases as with
    | cons=>cases z<;>rfl
    | nil=>cases z<;>rfl
theorem avJ (FD:nT P sigs N D0l jC ni 0 l []=some rs) (aT:uZ np N D0l rs bef jC=true) (bR:∀j k,bef j k=true->j<k)
  (hW:∀(i:Nat) (o:OpR),rs[i]?=some o->wl.getD i false=nS rs wl ((bD rs bef (gt D0l) s0 np px wl vl).sL allT i) o)
  (hV:∀(i:Nat) (o:OpR),rs[i]?=some o->wl.getD i false=true->∃b,o.cb ((bD rs bef (gt D0l) s0 np px wl vl).sL allT i)=some b/\(o.S b).eff.rel P ((bD rs bef (gt D0l) s0 np px wl vl).sL allT i) (vl.getD i [])) :
  RI P N l.toArray (abW rs (bD rs bef (gt D0l) s0 np px wl vl)) (bD rs bef (gt D0l) s0 np px wl vl):=by
 obtain ⟨bN,_,qp⟩:=adj FD rfl;simp only [dE] at bN qp
 -- the operation and what was found of it
 have at_op:∀i o,l.toArray[i]?=some o->∃x,rs[i]?=some x/\Du P sigs N D0l ((rs.take i).reverse) (jC i) (ni.getD i ⟨false,[],[]⟩) o=some x/\aoV P N o x:=by
  intro i o ho;obtain ⟨x,h1,h2⟩:=qp i o (by simpa using ho);exact ⟨x,h1,h2,adk h2⟩
 have at_rs:∀i,i<rs.length->∃o x,l.toArray[i]?=some o/\rs[i]?=some x/\aoV P N o x:=by
  intro i hi;have jv:i<l.length:=by omega
  have ho:l.toArray[i]?=some l[i]:=by simp [jv]
  obtain ⟨x,h1,_,h3⟩:=at_op i _ ho;exact ⟨_,x,ho,h1,h3⟩
 have gP:∀i x,rs[i]?=some x->abW rs (bD rs bef (gt D0l) s0 np px wl vl) i=x.S ((x.cb ((bD rs bef (gt D0l) s0 np px wl vl).sL allT i)).getD true):=fun i x hx=>by unfold abW;rw [hx]
 have mX:∀i x,rs[i]?=some x->rQ rs i=x.up:=fun i x hx=>by unfold rQ;rw [hx]
 have hd:∀i x,rs[i]?=some x->AP rs i=x.d:=fun i x hx=>by unfold AP;rw [hx]
 refine ⟨by simp [bD,bN],fun i hi => ?_,fun i o ho => ?_,bR,fun i j t wC hj hb => ?_,fun i o j b ho hg => ?_,fun i o ho => ?_,fun i hi hw t ht => ?_,fun i hi hw d hdd t fD => ?_,fun i o ho hw => ?_,fun i hi hw => ?_,fun i hi d hdd => ?_⟩
 ·obtain ⟨o,x,_,hx,h1⟩:=at_rs i hi;obtain ⟨ks,hks⟩:=h1.up;refine ⟨ks,?_⟩;show rQ rs i=_;rw [gP i x hx,h1.sup,mX i x hx,hks]
 ·obtain ⟨x,hx,_,h1⟩:=at_op i o ho;show AP rs i=_;rw [hd i x hx,h1.d]
 ·rw [Dv,Dv];rintro ⟨h1,h2⟩;obtain ⟨o,x,_,hx,_⟩:=at_rs i (by simp only [bD] at hj;omega);obtain ⟨k1,_⟩:=oF aT hx;have wB:bef j i=false:=by
   cases wB:bef j i with
   | false=>rfl
   | true=>have:=bR j i wB;omega
  exact (k1 j hj (by omega) hb wB t h2).2 h1
 ·obtain ⟨x,hx,_,h1⟩:=at_op i o ho;obtain ⟨_,_,_,_,k5,_,_⟩:=oF aT hx;obtain ⟨g1,g2,⟨t,ht,rA,I4,hT⟩,_⟩:=k5 j b (by rw [h1.gd,hg]);have hi:=(aZ hx).1;refine ⟨g1,t,ht,fun k hk hw=>rA k hk (Dv.1 hw),fun hw => ?_⟩;have:=aAp (r:=bD rs bef (gt D0l) s0 np px wl vl) (L:=bJ.lt i) (j:=j) (t:=t) (by simp only [bD];omega) (by simp [bJ.lt,g2]) hw I4 (fun k hk wz=>rA k hk (Dv.1 wz)) i g2 (by simp only [bD];omega);rw [this];exact hT
 ·obtain ⟨x,hx,_,h1⟩:=at_op i o ho;show wl.getD i false=_;rw [hW i x hx,aoW (eX i)];unfold nS;rw [h1.gd];cases o.guard with
  | none=>rfl
  | some p=>
   obtain ⟨j,b⟩:=p;simp only;show (wl.getD j false&&_)=(wl.getD j false&&_)
   congr 1;show (match AP rs j with|some t=>_|none=>_)=(match AP rs j with|some t=>_|none=>_)
   cases AP rs j with
   | none=>rfl
   | some t=>
    simp only;unfold kK;exact ahc _ b
 ·obtain ⟨o,x,_,hx,h1⟩:=at_rs i hi;obtain ⟨_,k2,k3,_⟩:=oF aT hx;have nC:t∉x.up.map (·.1):=by rw [<-mX i x hx];exact ht
  have Q7:(abW rs (bD rs bef (gt D0l) s0 np px wl vl) i).kl=(x.S true).kl:=by rw [gP i x hx,h1.kl]
  rw [Q7];refine ⟨?_,fun j hj ik hb T hT=>k2 j hj ik hb t T hT nC⟩;show (x.S true).kl (gt D0l t)=gt D0l t;cases hD:D0l[t]? with
  | none=>rw [amk hD];exact h1.kd
  | some T=>
   rw [aml hD];by_cases Ha:T = .dead
   ·rw [Ha];exact h1.kd
   ·exact k3 t T hD Ha nC
 ·obtain ⟨o,x,ho,hx,h1⟩:=at_rs i hi;obtain ⟨_,_,_,_,k5,_,_⟩:=oF aT hx;have G9:∃p,x.gd=some p:=by
   cases hg:x.gd with
   | some p=>exact ⟨p,rfl⟩
   | none=>
    exfalso;have:=hW i x hx;unfold nS at this;rw [hg] at this;simp only at this;have wz:wl.getD i false=false:=hw;rw [this] at wz;cases wz
  obtain ⟨⟨j,b⟩,hg⟩:=G9;obtain ⟨_,_,_,k6⟩:=k5 j b hg;have hdx:x.d=some d:=by rw [<-hd i x hx];exact hdd
  obtain ⟨k7,k8⟩:=k6 d hdx;refine ⟨?_,fun j hj ik hb T hT=>k8 j hj ik hb t T hT fD⟩;show (gt D0l t).kill [d] []=gt D0l t;cases hD:D0l[t]? with
  | none=>rw [amk hD];rfl
  | some T=>rw [aml hD];exact k7 t T hD fD
 ·obtain ⟨x,hx,hc,h1⟩:=at_op i o ho;obtain ⟨b,hb,pX⟩:=hV i x hx hw;obtain ⟨k1,_,_,_,_,k6,_⟩:=oF aT hx;have awP:abW rs (bD rs bef (gt D0l) s0 np px wl vl) i=x.S b:=by rw [gP i x hx,hb];rfl
  rw [awP];refine ⟨x.g b,h1.ok b,fun t => ?_,fun t ht hz => ?_⟩
  ·rcases aE5 aT hW hx hc hw hb t with h|⟨h2,h3⟩
   ·exact .inl h
   ·refine .inr ⟨h2,fun j hj hwd => ?_⟩;rw [Dv] at hwd;by_cases ik:j=i
    ·exact .inr (.inr ik)
    ·cases VD:bef i j with
     | true=>exact .inr (.inl VD)
     | false=>
      cases wB:bef j i with
      | true=>exact .inl wB
      | false=>exact absurd (k1 j hj ik VD wB t hwd).1 h3
  ·-- what jU no value: the tail of what is put
   have hv:=h1.vl b _ _ pX;have h6:=k6 b;have Q9:t∉(((x.S b).up.map (·.1)).zip (vl.getD i [])).map (·.1):=hz;generalize (x.S b).up=up at ht Q9 h6 ⊢;cases up with
   | nil=>simp at ht
   | cons p rest=>
    cases Cb:vl.getD i [] with
    | nil=>rw [Cb] at hv;simp at hv
    | cons v0 vs=>
     rw [Cb] at Q9;simp only [bv,Rn,aY,not_or] at Q9;have htp:=Q9.1;simp only [bv,aY] at ht;have I4:=avI (ht.resolve_left htp);have:=h6 _ (by simpa using I4);simp only [aG,if_neg htp];exact this
 ·obtain ⟨o,x,_,hx,h1⟩:=at_rs i hi;obtain ⟨b,hb,pX⟩:=hV i x hx hw;have awP:abW rs (bD rs bef (gt D0l) s0 np px wl vl) i=x.S b:=by rw [gP i x hx,hb];rfl
  rw [awP,aoW (eX i)];exact ⟨pX,(h1.vl b _ _ pX).1⟩
 ·obtain ⟨o,x,_,hx,h1⟩:=at_rs i hi;obtain ⟨_,_,_,k4,_⟩:=oF aT hx;exact k4 d (by rw [<-hd i x hx];exact hdd)
end
end Go.Fw
namespace Go.Fw
structure RD (np:Nat->Bool) (px:Nat->Value) (ac:Nat->Nat->Value) (κ0:aQ) (w0:World) (N:Nat) (D:Nat->TT) (s:Nat->AV) (a:Act) (w:World):Prop where
 st:∃κ tg sv,R ac κ0 w0 κ w N tg sv (gm a)/\Le D s tg sv
 size:a.tmps.size=N
 defers:a.defers=[]
 par:∀i,np i=true->gm a i=px i
theorem Le.trans {D D':Nat->TT} {s s':Nat->AV} {tg:Nat->TT} {sv:Nat->AV} (h:Le D s tg sv) (h':∀t,D' t = .dead\/(D' t=D t/\s' t=s t)):Le D' s' tg sv:=by
 intro t;rcases h' t with h1|⟨h1,h2⟩
 ·exact .inl h1
 ·rcases h t with h3|⟨h3,h4⟩
  ·left;rw [h1,h3]
  ·right;exact ⟨by rw [h1,h3],by rw [h2,h4]⟩
theorem RD.weak {np:Nat->Bool} {px:Nat->aj} {ac:Nat->Nat->aj} {κ0:aQ} {w0:aA} {N:Nat} {D D':Nat->TT} {s s':Nat->AV} {a:Act} {w:aA} (h:RD np px ac κ0 w0 N D s a w) (h':∀t,D' t = .dead\/(D' t=D t/\s' t=s t)):RD np px ac κ0 w0 N D' s' a w:=by
 obtain ⟨κ,tg,sv,hR,hL⟩:=h.st;exact ⟨⟨κ,tg,sv,hR,hL.trans h'⟩,h.size,h.defers,h.par⟩
def Dw (N:Nat) (D0l:aa TT) (rs:aa OpR):aa TT:=(List.range N).map fun t=>Jh (gt D0l) [] rs.reverse t
theorem ay5 {N:Nat} {D0l:aa TT} {rs:aa OpR} (t:Nat):gt (Dw N D0l rs) t = .dead\/gt (Dw N D0l rs) t=Jh (gt D0l) [] rs.reverse t:=by
 unfold gt Dw;rw [dw,kE];by_cases h:t<N
 ·rw [Rm h];exact .inr rfl
 ·rw [zP (by simp;omega)];exact .inl rfl
section
variable {P:aS} {sigs:FuncId->ah aL} {N:Nat} {D0l:aa TT} {jC:Nat->aa Nat} {ni:aa Hint} {l:aa bP} {rs:aa OpR} {bef:Nat->Nat->Bool} {s0:Nat->AV} {np:Nat->Bool} {px:Nat->aj} {K:(Nat->AV)->Prop}
variable {ac:Nat->Nat->aj} {κ0:aQ} {w0:aA} {a:Act} {w:aA} {Q:Exit->Act->aA->Prop} {id:Nat}
theorem SC (FD:nT P sigs N D0l jC ni 0 l []=some rs) (aT:uZ np N D0l rs bef jC=true) (bR:∀j k,bef j k=true->j<k) (hWo:wR P rs rs [] s0 K)
  (hQ:∀s a w,K s->RD np px ac κ0 w0 N (gt (Dw N D0l rs)) s a w->Q .normal a w) :
  ∃St r,RI P N l.toArray St r/\r.bef=bef/\r.n=l.length/\(∀a w,RD np px ac κ0 w0 N (gt D0l) s0 a w->RInv ac κ0 w0 N r (fun _=>false) a w)/\∀a w,RInv ac κ0 w0 N r (bJ.lt r.n) a w->Q .normal a w:=by
 have G9:∀(i:Nat) (o:OpR) (j:Nat) (b:Bool),rs[i]?=some o->o.gd=some (j,b)->j<i:=fun i o j b ho hg=>by
  obtain ⟨_,_,_,_,h5,_,_⟩:=oF aT ho;exact (h5 j b hg).2.1
 obtain ⟨wl,vl,_,k2,k3⟩:=amf (bef:=bef) (D0:=gt D0l) (s0:=s0) (np:=np) (px:=px) (wl:=[]) (vl:=[]) (pre:=[]) (os:=rs) G9 rfl rfl rfl hWo;have hW:∀(i:Nat) (o:OpR),rs[i]?=some o->wl.getD i false=nS rs wl ((bD rs bef (gt D0l) s0 np px wl vl).sL allT i) o:=fun i o ho=>(k3 i o (by simp) ho).1
 have hV:=fun (i:Nat) (o:OpR) (ho:rs[i]?=some o)=>(k3 i o (by simp) ho).2
 have aCt:=avJ FD aT bR hW hV;refine ⟨_,_,aCt,rfl,by rw [aCt.n];simp,fun a w h => ?_,fun a w h => ?_⟩
 ·obtain ⟨κ,tg,sv,hR,hL⟩:=h.st;refine ⟨⟨κ,tg,sv,hR,?_⟩,h.size,h.defers,h.par,fun j t _ hf=>by cases hf⟩;rw [bJ.dL_none _ fun _ _=>rfl,bJ.sL_none _ fun _ _=>rfl];exact hL
 ·obtain ⟨κ,tg,sv,hR,hL⟩:=h.st;refine hQ _ a w k2 ⟨⟨κ,tg,sv,hR,hL.trans fun t => ?_⟩,h.size,h.defers,h.par⟩;rcases ay5 (N:=N) (D0l:=D0l) (rs:=rs) t with h1|h1
  ·exact .inl h1
  ·have:=ag_ (D0:=gt D0l) (s0:=s0) (np:=np) (px:=px) (bef:=bef) (vl:=vl) (rs:=rs) (wl:=wl) (ch:=[]) (L:=bJ.lt rs.length) (pre:=rs.reverse) (post:=[]) (by simp) (fun j hj=>by simp at hj;simp [bJ.lt,hj])
    (fun j o' _ pq hg=>V4 aT hW (ch:=[]) (fun q hq=>by simp at hq) pq hg) t
   rw [List.length_reverse] at this;rcases this with h2|h2
   ·left;rw [h1,h2]
   ·right;refine ⟨by rw [h1,h2];rfl,?_⟩;rw [aoW (eX _)];rfl
theorem akG (FD:nT P sigs N D0l (fun _=>[]) ni 0 l []=some rs) (aT:uZ np N D0l rs (fun j i=>decide (j<i)) (fun _=>[])=true) (hWo:wR P rs rs [] s0 K)
  (hQ:∀s a w,K s->RD np px ac κ0 w0 N (gt (Dw N D0l rs)) s a w->Q .normal a w) (h:RD np px ac κ0 w0 N (gt D0l) s0 a w):(Code.region id l.toArray false).wp P Q a w:=by
 obtain ⟨St,r,hr,_,hn,awQ,akk⟩:=SC FD aT (fun j k h=>by simpa using h) hWo hQ;refine wp_region ?_;have:=agU hr akk r.n 0 a w (by omega) ((awQ a w h).congr fun j _=>by simp [bJ.lt]);rw [<-List.range_eq_range'] at this;simpa [hn] using this
def y_ (befs:aa Nat) (j i:Nat):Bool:=decide (j<i)&&(befs.getD i 0).testBit j
def egB (l:aa bP) (i:Nat):Bool:=
 match l[i]? with
 | some o=>af8 o&&o.guard.isNone&&l.zipIdx.all fun p=>(p.2 == i) || (p.1.after.toList.any fun e=>Region.binds .any e&&(e.on == i)) || (o.after.toList.any fun e=>Region.binds .any e&&(e.on == p.2)) || o.apart l.toArray p.1
 | none=>false
def egF (l:aa bP):aa Nat->Nat->Nat
 | [],s=>s
 | j::r,s=>egF l r (if egB l j then s ||| 2 ^ j else s)
def egM (l:aa bP):Nat:=egF l (List.range l.length) 0
theorem amm {l:aa bP} {j:Nat}:∀{r:aa Nat} {s:Nat},(egF l r s).testBit j=true->s.testBit j=true\/egB l j=true
 | [],_,h=>.inl h
 | k::r,s,h=>by
  unfold egF at h;rcases amm h with h1|h1
  ·split at h1
   ·rename_i hk;rw [Nat.testBit_or,Nat.testBit_two_pow,iT] at h1;rcases h1 with h1|h1
    ·exact .inl h1
    ·have:k=j:=by simpa using h1
     subst this;exact .inr hk
   ·exact .inl h1
  ·exact .inr h1
theorem ay6 {l:aa bP} {j:Nat} (h:(egM l).testBit j=true):egB l j=true:=by
 rcases amm h with h|h
 ·simp at h
 ·exact h
def oG {α:Type} (n:Nat) (f:Nat->α):α:=match n with
 | 0=>f 0
 | k+1=>f (k+1)
theorem NS {α:Type} (n:Nat) (f:Nat->α):oG n f=f n:=by cases n<;>rfl
def egP (l:aa bP) (m:Nat) (befs:aa Nat) (j i:Nat):Bool:=
 m.testBit j&&decide (j<i)&&match l[j]?,l[i]? with
  | some oj,some oi=>oj.after.toList.all fun e=>!Region.binds .any e || oi.after.toList.any fun e'=>Region.binds .any e'&&((e'.on == e.on) || y_ befs e.on e'.on)
  | _,_=>false
def okD (l:aa bP) (befs:aa Nat):Bool:=oG (egM l) fun m=>
 Region.noSelect l.toArray&&l.zipIdx.all fun p=>(p.1.after.toList.all fun e=>!Region.binds .any e || decide (e.on<p.2)) &&
  ((List.range p.2).all fun j=>!y_ befs j p.2 || (p.1.after.toList.any fun e=>Region.binds .any e&&((e.on == j) || y_ befs j e.on)) || egP l m befs j p.2)
theorem Yd {befs:aa Nat} (hD:okD l befs=true) (FD:nT P sigs N D0l jC ni 0 l []=some rs) (aT:uZ np N D0l rs (y_ befs) jC=true) (hWo:wR P rs rs [] s0 K)
  (hQ:∀s a w,K s->RD np px ac κ0 w0 N (gt (Dw N D0l rs)) s a w->Q .normal a w) (h:RD np px ac κ0 w0 N (gt D0l) s0 a w):wpAny P .any l.toArray (fun e a w=>e = .normal/\Q .normal a w) l.toArray.size (Array.replicate l.toArray.size false) a { w with drawn:=w.drawn+1 }:=by
 have bR:∀j k,y_ befs j k=true->j<k:=fun j k h=>by simp [y_] at h;exact h.1
 obtain ⟨St,r,hr,aFI,hn,awQ,akk⟩:=SC FD aT bR hWo hQ;simp only [okD,NS,aU] at hD;obtain ⟨Xr,hD⟩:=hD;have qp:∀i o,l.toArray[i]?=some o->(∀e,e∈o.after->Region.binds .any e=true->e.on<i)/\∀j,y_ befs j i=true->(∃e,e∈o.after/\Region.binds .any e=true/\(e.on=j\/y_ befs j e.on=true))\/egP l (egM l) befs j i=true:=by
  intro i o ho;have hm:(o,i)∈l.zipIdx:=by rw [List.mem_zipIdx_iff_getElem?];simpa using ho
  have:=(bW.1 hD) (o,i) hm;simp only [aU] at this;refine ⟨fun e he hb => ?_,fun j hj => ?_⟩
  ·have h2:=(bW.1 this.1) e (by simpa using he);simpa [hb] using h2
  ·have h2:=(bW.1 this.2) j (iY.2 (bR j i hj));rw [hj] at h2;simp only [bB,wD,iT] at h2;rcases h2 with h2|h2
   ·simp only [nI,aU,iT,beq_iff_eq] at h2;obtain ⟨e,h3,h4,h5⟩:=h2;exact .inl ⟨e,by simpa using h3,h4,h5⟩
   ·exact .inr h2
 have jk:RD np px ac κ0 w0 N (gt D0l) s0 a { w with drawn:=w.drawn+1 }:=by
  obtain ⟨κ,tg,sv,hR,hL⟩:=h.st;exact ⟨⟨κ,tg,sv,aAe hR rfl rfl rfl rfl,hL⟩,h.size,h.defers,h.par⟩
 refine avD hr (egB l) (fun i o j ho hb => ?_) (fun i o e ho he hb=>(qp i o ho).1 e he hb) (fun i o ho hg => ?_) (Region.noSelect_spec Xr) (fun c a w h=>by cases h.1) (fun a w h=>⟨rfl,akk a w h⟩) _ _ a _ (by simp) (fun j k hb hl => ?_) ?_ ((awQ a _ jk).congr fun j _ => ?_)
 ·rw [aFI] at hb ⊢;rcases (qp i o ho).2 j hb with h1|h1
  ·exact .inl h1
  ·right;simp only [egP,aU,decide_eq_true_eq] at h1;obtain ⟨⟨h3,h2⟩,h5⟩:=h1;refine ⟨h2,ay6 h3,fun oj Fz e he hb => ?_⟩;have e1:l[j]?=some oj:=by simpa using Fz
   have e2:l[i]?=some o:=by simpa using ho
   rw [e1,e2] at h5;simp only [bW] at h5;have:=h5 e (by simpa using he);rw [hb] at this;simp only [bB,wD,nI,aU,iT,beq_iff_eq] at this;obtain ⟨e',k1,k2,k3⟩:=this;exact ⟨e',by simpa using k1,k2,k3⟩
 ·have e2:l[i]?=some o:=by simpa using ho
  simp only [egB,e2,aU,bW] at hg;obtain ⟨⟨g1,g2⟩,g3⟩:=hg;refine ⟨g1,by simpa using g2,fun j oj Fz aX eD aFJ => ?_⟩;have hm:(oj,j)∈l.zipIdx:=by rw [List.mem_zipIdx_iff_getElem?];simpa using Fz
  have:=g3 (oj,j) hm;simp only [iT,beq_iff_eq,nI,aU] at this;rcases this with ((h1|⟨e,h1,h2,h3⟩)|⟨e,h1,h2,h3⟩)|h1
  ·exact absurd h1 aX
  ·exact absurd h3 (eD e (by simpa using h1) h2)
  ·exact absurd h3 (aFJ e (by simpa using h1) h2)
  ·exact h1
 ·simp [rD,af2] at hl;split at hl<;>simp at hl
 ·exact kg (qM _ _) (by simp)
 ·simp only [rD,af2];split<;>rfl
theorem akH {befs:aa Nat} (hm:P.follows .mixedOrders=true) (hD:okD l befs=true) (FD:nT P sigs N D0l jC ni 0 l []=some rs) (aT:uZ np N D0l rs (y_ befs) jC=true) (hWo:wR P rs rs [] s0 K)
  (hQ:∀s a w,K s->RD np px ac κ0 w0 N (gt (Dw N D0l rs)) s a w->Q .normal a w) (h:RD np px ac κ0 w0 N (gt D0l) s0 a w):(Code.region id l.toArray true).wp P Q a w:=
 Code.wp_mono (Q:=fun e a w=>e = .normal/\Q .normal a w) (fun e a w h=>by obtain ⟨rfl,h⟩:=h;exact h) (wp_region_any hm (Yd hD FD aT hWo hQ h))
end
end Go.Fw
namespace Go.Fw
def Wk (T T':TT):Prop:=T'=T\/(∃ag cs cs',T = .val ag cs/\T' = .val ag cs'/\CT.les cs cs'=true)\/∃cs cs',T = .box cs/\T' = .box cs'/\CT.les cs cs'=true
theorem ar9:∀{cs cs':aa CT},CT.les cs cs'=true->∀{k:Nat} {c':CT},cs'[k]?=some c'->∃c,cs[k]?=some c/\c.le c'=true
 | [],[],_,k,c',h=>by simp at h
 | c::cs,e::cs',h,0,c',hk=>by
  simp only [CT.les,aU] at h;simp only [J9,aN] at hk;subst hk;exact ⟨c,rfl,h.1⟩
 | c::cs,e::cs',h,k+1,c',hk=>by
  simp only [CT.les,aU] at h;simp only [Xy] at hk ⊢;exact ar9 h.2 hk
 | [],_::_,h,_,_,_=>by simp [CT.les] at h
 | _::_,[],h,_,_,_=>by simp [CT.les] at h
theorem amn {ac:Nat->Nat->aj} {cs cs':aa CT} {get:Nat->aj} (hl:CT.les cs cs'=true) (h:rF ac cs get):rF ac cs' get:=by
 intro k j c e hk;obtain ⟨c0,h1,h2⟩:=ar9 hl hk;cases c0 with
 | d=>simp [CT.le] at h2
 | sl m e0=>
  cases m with
  | own p=>
   simp only [CT.le,aU,iT,decide_eq_true_eq] at h2;rcases h2.1 with h3|h3
   ·cases h3
   ·subst h3;exact h k j c e0 h1
  | ro S=>simp [CT.le] at h2
  | dead=>simp [CT.le] at h2
section
variable {ac:Nat->Nat->aj} {κ0 κ:aQ} {w0 w:aA} {N:Nat} {tg tg':Nat->TT} {sv:Nat->AV} {tm:Nat->aj}
theorem Wk.rg {T T':TT} (h:Wk T T') (w:aA) (x:aj):Go.Fw.rg w T' x=Go.Fw.rg w T x/\Go.Fw.rb T' x=Go.Fw.rb T x:=by
 rcases h with rfl|⟨ag,cs,cs',rfl,rfl,_⟩|⟨cs,cs',rfl,rfl,_⟩
 ·exact ⟨rfl,rfl⟩
 ·exact ⟨by funext k;simp [Go.Fw.rg],rfl⟩
 ·refine ⟨by funext k;cases x<;>first
   | rfl
   | (rename_i o;cases o<;>rfl),by cases x<;>first
   | rfl
   | (rename_i o;cases o<;>rfl)⟩
theorem aC9 {t:Nat} {T:TT} (hw:∀t,Wk (tg t) (tg' t)) (h:TR ac κ w tg sv tm t T):TR ac κ w tg' sv tm t T:=by
 cases T with
 | dead=>trivial
 | val ag cs=>simpa only [TR] using h
 | box cs=>simpa only [TR] using h
 | tup ws cs=>simpa only [TR] using h
 | alias ag cs r sk off S=>
  simp only [TR] at h ⊢;rw [((hw r).rg w (tm r)).1,((hw r).rg w (tm r)).2];exact h
 | ptr r sk off S=>
  simp only [TR] at h ⊢;rw [((hw r).rg w (tm r)).1,((hw r).rg w (tm r)).2];exact h
theorem aAq (h:R ac κ0 w0 κ w N tg sv tm) (hw:∀t,Wk (tg t) (tg' t)):R ac κ0 w0 κ w N tg' sv tm:=by
 refine ⟨fun t => ?_,fun t ht => ?_,h.col,h.fr,h.fb,h.nle⟩
 ·have h1:=aC9 hw (h.tr t);rcases hw t with h2|⟨ag,cs,cs',h2,h3,h4⟩|⟨cs,cs',h2,h3,h4⟩
  ·rw [h2];exact h1
  ·rw [h2] at h1;rw [h3];simp only [TR] at h1 ⊢;obtain ⟨as,vs,g1,g2,g3,g4,g5⟩:=h1;exact ⟨as,vs,g1,g2,by rw [g3,jM h4],amn h4 g4,wP h4 g5⟩
  ·rw [h2] at h1;rw [h3];simp only [TR] at h1 ⊢;obtain ⟨as,b,g1,g2,g3,g4,g5,g6,g7⟩:=h1;exact ⟨as,b,g1,g2,g3,g4,by rw [<-jM h4];exact g5,amn h4 g6,wP h4 g7⟩
 ·have h1:=h.out t ht;rcases hw t with h2|⟨ag,cs,cs',h2,_⟩|⟨cs,cs',h2,_⟩
  ·rw [h2,h1]
  ·rw [h1] at h2;cases h2
  ·rw [h1] at h2;cases h2
end
open Classical in
theorem RD.weak2 {np:Nat->Bool} {px:Nat->aj} {ac:Nat->Nat->aj} {κ0:aQ} {w0:aA} {N:Nat} {D D':Nat->TT} {s:Nat->AV} {a:Act} {w:aA} (h:RD np px ac κ0 w0 N D s a w) (h':∀t,D' t = .dead\/Wk (D t) (D' t)):RD np px ac κ0 w0 N D' s a w:=by
 obtain ⟨⟨κ,tg,sv,hR,hL⟩,h2,h3,h4⟩:=h;have each:∀t,D' t≠.dead->D t=tg t/\s t=sv t/\Wk (tg t) (D' t):=by
  intro t ht;rcases h' t with h5|h5
  ·exact absurd h5 ht
  ·rcases hL t with h6|⟨h6,h7⟩
   ·exfalso;rw [h6] at h5;rcases h5 with h5|⟨_,_,_,h5,_⟩|⟨_,_,h5,_⟩
    ·exact ht h5
    ·cases h5
    ·cases h5
   ·exact ⟨h6,h7,by rw [<-h6];exact h5⟩
 refine ⟨⟨κ,fun t=>if D' t = .dead then tg t else D' t,sv,aAq hR fun t => ?_,fun t => ?_⟩,h2,h3,h4⟩
 ·by_cases ht:D' t = .dead
  ·simp only [if_pos ht];exact .inl rfl
  ·simp only [if_neg ht];exact (each t ht).2.2
 ·by_cases ht:D' t = .dead
  ·exact .inl ht
  ·exact .inr ⟨by simp only [if_neg ht],(each t ht).2.1⟩
end Go.Fw
namespace Go.Fw
def reO (σ:Nat->Nat) (o:bP):bP:={ o with after:=o.after.map fun e=>{ e with on:=σ e.on },guard:=o.guard.map fun p=>(σ p.1,p.2) }
def Dx (l:aa bP) (n:Nat) (ord σ:Nat->Nat):aa bP:=(List.range n).map fun k=>reO σ (l.getD (ord k) default)
def okP (n:Nat) (ord σ:Nat->Nat):Bool:=(List.range n).all fun k=>decide (ord k<n)&&σ (ord k) == k&&decide (σ k<n)&&ord (σ k) == k
def aE6 (l:aa bP):aa Nat:=l.map fun o=>o.after.toList.foldl (fun s e=>if Region.binds .any e then s ||| 2 ^ e.on else s) 0
def asa (m acc:Nat):aa Nat->Nat->Nat->Nat
 | [],_,d=>d
 | a::r,i,d=>if m.testBit i && !acc.testBit i&&(a &&& acc == a) then i else asa m acc r (i+1) d
def asb (acc:Nat):Nat->Nat->Nat
 | 0,i=>i
 | k+1,i=>if acc.testBit i then asb acc k (i+1) else i
def aAr (ms:aa Nat) (n m:Nat):Nat->Nat->Nat->Nat->Nat->Nat × Nat
 | 0,_,_,c,d=>(c,d)
 | k+1,j,acc,c,d=>oG (asb acc n 0) fun f=>oG (asa m acc ms 0 f) fun i=>oG (acc ||| 2 ^ i) fun acc=>oG (c ||| i*2 ^ (8*j)) fun c=>oG (d ||| j*2 ^ (8*i)) fun d=>aAr ms n m k (j+1) acc c d
def idG:Nat->Nat
 | 0=>0
 | k+1=>idG k ||| k*2 ^ (8*k)
def dig (c k:Nat):Nat:=(c >>> (8*k)) % 256
def sgm (n d j:Nat):Nat:=if j<n then dig d j else n
section
variable {P:aS} {l:aa bP} {ord σ:Nat->Nat} (h:okP l.length ord σ=true) (hσ:∀j,¬j<l.length->σ j=l.length)
include h
theorem Dy {k:Nat} (hk:k<l.length):ord k<l.length/\σ (ord k)=k/\σ k<l.length/\ord (σ k)=k:=by
 unfold okP at h;rw [bW] at h;have:=h k (iY.2 hk);simp only [aU,decide_eq_true_eq,beq_iff_eq] at this;exact ⟨this.1.1.1,this.1.1.2,this.1.2,this.2⟩
omit h in
theorem abX:(Dx l l.length ord σ).length=l.length:=by unfold Dx;rw [dX,sJ]
theorem ahd {i:Nat} {o:bP} (ho:l[i]?=some o):(Dx l l.length ord σ)[σ i]?=some (reO σ o):=by
 have hi:=(aZ ho).1;obtain ⟨_,_,h3,h4⟩:=Dy h hi;unfold Dx;rw [kE,Rm h3,dx,h4,dw,ho];rfl
include hσ
theorem asf (tmps:Array aj) (j:Nat):yielded (Dx l l.length ord σ).toArray tmps (σ j)=yielded l.toArray tmps j:=by
 unfold yielded;by_cases hj:j<l.length
 ·rw [sI,sI,ahd h (aR hj),aR hj];rfl
 ·rw [sI,sI,hσ j hj,zP (by rw [abX];omega),zP (by omega)]
theorem avK {Q:Exit->Act->aA->Prop} {i:Nat} (hi:i<l.length) {K:Act->aA->Prop} {a:Act} {w:aA} (hw:wpOp P (Dx l l.length ord σ).toArray Q (σ i) K a w):wpOp P l.toArray Q i K a w:=by
 have ho:=aR hi;generalize l[i]=o at ho;have pq:=ahd h ho;unfold wpOp at hw ⊢;rw [sI] at hw ⊢;rw [pq] at hw;rw [ho];have hwt:Region.wanted (reO σ o) (yielded (Dx l l.length ord σ).toArray a.tmps)=Region.wanted o (yielded l.toArray a.tmps):=by
  unfold Region.wanted reO;cases hg:o.guard with
  | none=>rfl
  | some p=>
   simp only [dx];rw [asf h hσ]
 simp only at hw ⊢;rw [hwt] at hw;exact hw
theorem avL {Q:Exit->Act->aA->Prop}:∀(fuel:Nat) (listed listed':Array Bool) (a:Act) (w:aA),listed.size=l.length->listed'.size=l.length->(∀i,i<l.length->listed'.getD (σ i) false=listed.getD i false) ->
  wpAny P .any (Dx l l.length ord σ).toArray Q fuel listed' a w->wpAny P .any l.toArray Q fuel listed a w:=by
 have getT:∀(L:Array Bool) (j:Nat),L.size=l.length->j<l.length->L.getD j true=L.getD j false:=by
  intro L j h1 h2;simp only [rD];rw [VK (by omega)];rfl
 have rdy:∀(listed listed':Array Bool),listed.size=l.length->listed'.size=l.length->(∀i,i<l.length->listed'.getD (σ i) false=listed.getD i false)->∀i,i<l.length->(σ i∈Region.ready .any (Dx l l.length ord σ).toArray listed'↔i∈Region.ready .any l.toArray listed):=by
  intro listed listed' hs g_ hL i hi;have FC:∀j,listed'.getD (σ j) false=listed.getD j false:=by
   intro j;by_cases hj:j<l.length
   ·exact hL j hj
   ·rw [hσ j hj];simp only [rD];rw [af4 (by omega),af4 (by omega)]
  have ho:=aR hi;generalize l[i]=o at ho;have pq:=ahd h ho;rw [mem_ready,mem_ready,sI,sI,ho,pq,getT _ _ g_ (Dy h hi).2.2.1,getT _ _ hs hi,hL i hi];constructor
  ·rintro ⟨h1,o1,h2,h3⟩;cases h2;refine ⟨h1,o,rfl,fun e he hb => ?_⟩;have:=h3 { e with on:=σ e.on } (by
    unfold reO
    simp only
    rw [Array.mem_map]
    exact ⟨e,he,rfl⟩) hb
   rw [<-FC e.on];exact this
  ·rintro ⟨h1,o1,h2,h3⟩;cases h2;refine ⟨h1,_,rfl,fun e he hb => ?_⟩;unfold reO at he;simp only at he;rw [Array.mem_map] at he;obtain ⟨e0,he0,rfl⟩:=he;simp only;rw [FC];exact h3 e0 he0 hb
 have nil:∀(listed listed':Array Bool),listed.size=l.length->listed'.size=l.length->(∀i,i<l.length->listed'.getD (σ i) false=listed.getD i false)->Region.ready .any l.toArray listed=[]->Region.ready .any (Dx l l.length ord σ).toArray listed'=[]:=by
  intro listed listed' hs g_ hL hn;rw [List.eq_nil_iff_forall_not_mem];intro k hk;have Q7:k<l.length:=by
   obtain ⟨_,o,ho,_⟩:=mem_ready.1 hk;rw [sI] at ho;have:=(aZ ho).1;rwa [abX] at this
  obtain ⟨h1,h2,_,_⟩:=Dy h Q7;rw [<-h2] at hk;have:=(rdy listed listed' hs g_ hL _ h1).1 hk;rw [hn] at this;cases this
 intro fuel;induction fuel with
 | zero=>
  intro listed listed' a w hs g_ hL hw;refine ⟨?_,hw.2⟩;rw [List.eq_nil_iff_forall_not_mem];intro i hi;have Nv:i<l.length:=by
   obtain ⟨_,o,ho,_⟩:=mem_ready.1 hi;rw [sI] at ho;exact (aZ ho).1
  have:=(rdy listed listed' hs g_ hL i Nv).2 hi;rw [hw.1] at this;cases this
 | succ fuel ih=>
  intro listed listed' a w hs g_ hL hw;refine ⟨fun hn=>hw.1 (nil listed listed' hs g_ hL hn),fun i hi => ?_⟩;have Nv:i<l.length:=by
   obtain ⟨_,o,ho,_⟩:=mem_ready.1 hi;rw [sI] at ho;exact (aZ ho).1
  refine avK h hσ Nv (wpOp_mono (fun a w hk=>ih _ _ a w (by simpa using hs) (by simpa using g_) (fun j hj => ?_) hk) (hw.2 _ ((rdy listed listed' hs g_ hL i Nv).2 hi)));have e1:(listed'.setIfInBounds (σ i) true).getD (σ j) false=(decide (j=i) || listed'.getD (σ j) false):=by
   simp only [rD,abA];have jv:=(Dy h Nv).2.2.1;by_cases ik:j=i
   ·subst ik;rw [if_pos rfl,if_pos (by omega)];simp
   ·have aX:σ i≠σ j:=by
     intro he;have h1:=(Dy h Nv).2.2.2;have h2:=(Dy h hj).2.2.2;rw [he,h2] at h1;exact ik h1
    rw [if_neg aX,az ik,wD]
  have e2:(listed.setIfInBounds i true).getD j false=(decide (j=i) || listed.getD j false):=by
   simp only [rD,abA];by_cases ik:j=i
   ·subst ik;rw [if_pos rfl,if_pos (by omega)];simp
   ·rw [if_neg (fun h=>ik h.symm),az ik,wD]
  rw [e1,e2,hL j hj]
end
section
variable {P:aS} {sigs:FuncId->ah aL} {N:Nat} {D0l:aa TT} {jC:Nat->aa Nat} {ni:aa Hint} {l:aa bP} {rs:aa OpR} {s0:Nat->AV} {np:Nat->Bool} {px:Nat->aj} {K:(Nat->AV)->Prop}
variable {ac:Nat->Nat->aj} {κ0:aQ} {w0:aA} {a:Act} {w:aA} {Q:Exit->Act->aA->Prop} {id:Nat}
theorem asg {befs:aa Nat} {ord σ:Nat->Nat} (hp:okP l.length ord σ=true) (hσ:∀j,¬j<l.length->σ j=l.length) (hm:P.follows .mixedOrders=true) (hD:okD (Dx l l.length ord σ) befs=true) (FD:nT P sigs N D0l jC ni 0 (Dx l l.length ord σ) []=some rs) (aT:uZ np N D0l rs (y_ befs) jC=true) (hWo:wR P rs rs [] s0 K)
  (hQ:∀s a w,K s->RD np px ac κ0 w0 N (gt (Dw N D0l rs)) s a w->Q .normal a w) (h:RD np px ac κ0 w0 N (gt D0l) s0 a w):(Code.region id l.toArray true).wp P Q a w:=by
 refine Code.wp_mono (Q:=fun e a w=>e = .normal/\Q .normal a w) (fun e a w h=>by obtain ⟨rfl,h⟩:=h;exact h) (wp_region_any hm ?_);have hs:(Dx l l.length ord σ).toArray.size=l.toArray.size:=by simp [abX]
 have:=Yd hD FD aT hWo hQ h;rw [hs] at this;refine avL hp hσ _ _ _ a _ (by simp) (by simp) (fun i hi => ?_) this;simp only [rD,af2];have:=(Dy hp hi).2.2.1;rw [if_pos (by simpa using this),if_pos (by simpa using hi)]
end
theorem ay7 {n d j:Nat} (h:¬j<n):sgm n d j=n:=if_neg h
def aoX (l:aa bP):Nat × Nat:=oG (egM l) fun m=>aAr (aE6 l) l.length m l.length 0 0 0 0
end Go.Fw
namespace Go.Fw
inductive CC where
 | skip
 | rg (rs:List OpR)
 | seq (a b:CC)
 | cond (X:DX) (a b:CC)
 | block (id:Nat) (b:CC)
 | loop (b:CC)
 | exit (id:Nat)
 | ret
inductive Ex where
 | normal
 | exit (id:Nat)
 | ret
def af_ (N:(Nat->AV)->Prop) (Q:Ex->(Nat->AV)->Prop):Ex->(Nat->AV)->Prop
 | .normal,s=>N s
 | e,s=>Q e s
def Jj (id:Nat) (Q:Ex->(Nat->AV)->Prop):Ex->(Nat->AV)->Prop
 | .exit id',s=>if id'=id then Q .normal s else Q (.exit id') s
 | e,s=>Q e s
def rnd (F:(Nat->AV)->(Ex->(Nat->AV)->Prop)->Prop) (Q:Ex->(Nat->AV)->Prop):Nat->(Nat->AV)->Prop
 | 0,_=>False
 | n+1,s=>F s (af_ (rnd F Q n) Q)
def W (P:aS):CC->(Nat->AV)->(Ex->(Nat->AV)->Prop)->Prop
 | .skip,s,Q=>Q .normal s
 | .rg rs,s,Q=>wR P rs rs [] s (Q .normal)
 | .seq a b,s,Q=>W P a s (af_ (fun s=>W P b s Q) Q)
 | .cond X a b,s,Q=>∃c,X.get s=some (.bool c)/\if c then W P a s Q else W P b s Q
 | .block id b,s,Q=>W P b s (Jj id Q)
 | .loop b,s,Q=>∃n,rnd (W P b) Q n s
 | .exit id,s,Q=>Q (.exit id) s
 | .ret,s,Q=>Q .ret s
structure Out where
 n:Option (List TT)
 ex:List (Nat × List TT)
 rt:List (List TT)
inductive HT where
 | nil
 | rg (h:List Hint)
 | two (a b:HT)
 | one (a:HT)
 | loop (dl:List Nat) (a:HT)
def jnT:TT->TT->TT
 | .val ag cs,.val ag' cs'=>if ag=ag'/\CT.les cs (CT.jns cs cs')=true/\CT.les cs' (CT.jns cs cs')=true then .val ag (CT.jns cs cs') else .dead
 | .box cs,.box cs'=>if CT.les cs (CT.jns cs cs')=true/\CT.les cs' (CT.jns cs cs')=true then .box (CT.jns cs cs') else .dead
 | _,_=>.dead
theorem aC_ (a b:TT):jnT a b = .dead\/Wk a (jnT a b):=by
 unfold jnT;split
 ·split
  ·rename_i h;exact .inr (.inr (.inl ⟨_,_,_,rfl,rfl,h.2.1⟩))
  ·exact .inl rfl
 ·split
  ·rename_i h;exact .inr (.inr (.inr ⟨_,_,rfl,rfl,h.1⟩))
  ·exact .inl rfl
 ·exact .inl rfl
theorem aDa (a b:TT):jnT a b = .dead\/Wk b (jnT a b):=by
 unfold jnT;split
 ·split
  ·rename_i h;obtain ⟨rfl,_,h⟩:=h;exact .inr (.inr (.inl ⟨_,_,_,rfl,rfl,h⟩))
  ·exact .inl rfl
 ·split
  ·rename_i h;exact .inr (.inr (.inr ⟨_,_,rfl,rfl,h.2⟩))
  ·exact .inl rfl
 ·exact .inl rfl
def qP:aa TT->aa TT->aa TT
 | a::l,b::m=>(if a.beq b then a else jnT a b)::qP l m
 | _,_=>[]
def RO:ah (aa TT)->ah (aa TT)->ah (aa TT)
 | some a,some b=>some (qP a b)
 | some a,none=>some a
 | none,x=>x
def leD:aa TT->aa TT->Bool
 | [],_=>true
 | a::l,b::m=>(a.isDead || a.beq b)&&leD l m
 | a::l,[]=>a.isDead&&leD l []
def leO (Dh:aa TT):ah (aa TT)->Bool
 | some D'=>leD Dh D'
 | none=>true
theorem amq:∀(l m:aa TT) (t:Nat),gt (qP l m) t = .dead\/Wk (gt l t) (gt (qP l m) t)
 | [],m,t=>by left;cases m<;>simp [qP,gt]
 | a::l,[],t=>by left;simp [qP,gt]
 | a::l,b::m,t=>by
  cases t with
  | zero=>
   simp only [qP,gt,uG];split
   ·exact .inr (.inl rfl)
   ·exact aC_ a b
  | succ t=>simpa [qP,gt] using amq l m t
theorem amr:∀(l m:aa TT) (t:Nat),gt (qP l m) t = .dead\/Wk (gt m t) (gt (qP l m) t)
 | [],m,t=>by left;cases m<;>simp [qP,gt]
 | a::l,[],t=>by left;simp [qP,gt]
 | a::l,b::m,t=>by
  cases t with
  | zero=>
   simp only [qP,gt,uG];split
   ·rename_i h;exact .inr (.inl (TT.beq_eq h))
   ·exact aDa a b
  | succ t=>simpa [qP,gt] using amr l m t
theorem Ye:∀{l m:aa TT},leD l m=true->∀t,gt l t = .dead\/gt l t=gt m t
 | [],m,_,t=>by left;simp [gt]
 | a::l,b::m,h,t=>by
  simp only [leD,aU,iT] at h;cases t with
  | zero=>
   simp only [gt,uG];rcases h.1 with h|h
   ·exact .inl (FM h)
   ·exact .inr (TT.beq_eq h)
  | succ t=>simpa [gt] using Ye h.2 t
 | a::l,[],h,t=>by
  simp only [leD,aU] at h;cases t with
  | zero=>simp only [gt,uG];exact .inl (FM h.1)
  | succ t=>simpa [gt] using Ye h.2 t
def Yf (l:aa bP):aa Nat:=oG (egM l) fun m=>
 (l.foldl (fun acc o=>acc++[
  let s:=o.after.toList.foldl (fun s e=>if Region.binds .any e then s ||| 2 ^ e.on ||| acc.getD e.on 0 else s) 0
  (List.range acc.length).foldl (fun s j=>if egP l m acc j acc.length then s ||| 2 ^ j else s) s]) [])
def aDb (l:aa bP) (befs:aa Nat) (i:Nat):aa Nat:=
 l.zipIdx.flatMap fun p=>if p.2 == i || y_ befs i p.2 || y_ befs p.2 i then [] else p.1.dst.toList
def aAt (l:aa bP) (befs:aa Nat) (hs:aa Hint) (i:Nat):aa Nat:=aDb l befs i++(hs.getD i ⟨false,[],[]⟩).hd
def ash (dl:aa Nat) (D:aa TT):aa TT:=D.zipIdx.map fun p=>if dl.contains p.2 then .dead else p.1
def RP (P:aS) (sigs:FuncId->ah aL) (np:Nat->Bool) (N:Nat) (hs:aa Hint) (l:aa bP) (D:aa TT):ah (CC × Out):=
 match nT P sigs N D (aAt l (Yf l) hs) hs 0 l [] with
 | some rs=>if P.follows .mixedOrders&&okD l (Yf l)&&uZ np N D rs (y_ (Yf l)) (aAt l (Yf l) hs) then some (.rg rs,⟨some (Dw N D rs),[],[]⟩) else none
 | none=>none
def oH (P:aS) (sigs:FuncId->ah aL) (np:Nat->Bool) (N:Nat):HT->Code->aa TT->ah (CC × Out)
 | _,.skip,D=>some (.skip,⟨some D,[],[]⟩)
 | h,.region _ ops draw,D=>
  let hs:=match h with
   | .rg hs=>hs
   | _=>[]
  if draw then oG (aoX ops.toList).1 fun c=>if c == idG ops.toList.length then RP P sigs np N hs ops.toList D else oG (aoX ops.toList).2 fun d=>
   if okP ops.toList.length (dig c) (sgm ops.toList.length d) then RP P sigs np N hs (Dx ops.toList ops.toList.length (dig c) (sgm ops.toList.length d)) D else none
  else match nT P sigs N D (fun _=>[]) hs 0 ops.toList [] with
   | some rs=>if uZ np N D rs (fun j i=>decide (j<i)) (fun _=>[]) then some (.rg rs,⟨some (Dw N D rs),[],[]⟩) else none
   | none=>none
 | .two ha hb,.seq a b,D=>match oH P sigs np N ha a D with
  | some (a',o)=>match o.n with
   | none=>some (.seq a' .skip,o)
   | some D'=>fTs D' fun D'=>match oH P sigs np N hb b D' with
    | some (b',o')=>some (.seq a' b',⟨o'.n,o.ex++o'.ex,o.rt++o'.rt⟩)
    | none=>none
  | none=>none
 | .two ha hb,.cond c a b,D=>match nR (gt D) c,oH P sigs np N ha a D,oH P sigs np N hb b D with
  | some X,some (a',o),some (b',o')=>some (.cond X a' b',⟨RO o.n o'.n,o.ex++o'.ex,o.rt++o'.rt⟩)
  | _,_,_=>none
 | .one h,.block id b,D=>match oH P sigs np N h b D with
  | some (b',o)=>some (.block id b',⟨(o.ex.filterMap fun p=>if p.1=id then some p.2 else none).foldl (fun x D=>RO x (some D)) o.n,o.ex.filter fun p=>p.1 != id,o.rt⟩)
  | none=>none
 | .loop dl h,.loop b,D=>fTs (ash dl D) fun Dh=>match oH P sigs np N h b Dh with
  | some (b',o)=>if leD Dh D&&leO Dh o.n then some (.loop b',⟨none,o.ex,o.rt⟩) else none
  | none=>none
 | _,.exit id,D=>some (.exit id,⟨none,[(id,D)],[]⟩)
 | _,.ret,D=>some (.ret,⟨none,[],[D]⟩)
 | _,_,_=>none
end Go.Fw
namespace Go.Fw
section
variable {P:aS} {sigs:FuncId->ah aL} {np:Nat->Bool} {N:Nat} {px:Nat->aj} {ac:Nat->Nat->aj} {κ0:aQ} {w0:aA}
def axa (np:Nat->Bool) (px:Nat->aj) (ac:Nat->Nat->aj) (κ0:aQ) (w0:aA) (N:Nat) (out:Out) (Q:Ex->(Nat->AV)->Prop):Exit->Act->aA->Prop
 | .normal,a,w=>∃s D,out.n=some D/\Q .normal s/\RD np px ac κ0 w0 N (gt D) s a w
 | .exit id,a,w=>∃s D,(id,D)∈out.ex/\Q (.exit id) s/\RD np px ac κ0 w0 N (gt D) s a w
 | .ret,a,w=>∃s D,D∈out.rt/\Q .ret s/\RD np px ac κ0 w0 N (gt D) s a w
 | _,_,_=>False
theorem RD.le {D D':aa TT} {s:Nat->AV} {a:Act} {w:aA} (h:RD np px ac κ0 w0 N (gt D) s a w) (h':∀t,gt D' t = .dead\/gt D' t=gt D t):RD np px ac κ0 w0 N (gt D') s a w:=
 h.weak fun t=>(h' t).imp id fun h=>⟨h,rfl⟩
theorem ams {x y:ah (aa TT)} {D:aa TT} (h:x=some D) {s:Nat->AV} {a:Act} {w:aA} (hR:RD np px ac κ0 w0 N (gt D) s a w):∃D',RO x y=some D'/\RD np px ac κ0 w0 N (gt D') s a w:=by
 subst h;cases y with
 | none=>exact ⟨D,rfl,hR⟩
 | some E=>exact ⟨_,rfl,hR.weak2 (amq D E)⟩
theorem amt {x y:ah (aa TT)} {D:aa TT} (h:y=some D) {s:Nat->AV} {a:Act} {w:aA} (hR:RD np px ac κ0 w0 N (gt D) s a w):∃D',RO x y=some D'/\RD np px ac κ0 w0 N (gt D') s a w:=by
 subst h;cases x with
 | none=>exact ⟨D,rfl,hR⟩
 | some E=>exact ⟨_,rfl,hR.weak2 (amr E D)⟩
theorem ahg:∀{l:aa (aa TT)} {x:ah (aa TT)} {D:aa TT},x=some D->∀{s:Nat->AV} {a:Act} {w:aA},RD np px ac κ0 w0 N (gt D) s a w->∃D',l.foldl (fun x D=>RO x (some D)) x=some D'/\RD np px ac κ0 w0 N (gt D') s a w
 | [],x,D,h,s,a,w,hR=>⟨D,by simpa using h,hR⟩
 | E::l,x,D,h,s,a,w,hR=>by
  obtain ⟨D',h1,h2⟩:=ams (y:=some E) h hR;exact ahg (l:=l) h1 h2
theorem asi:∀{l:aa (aa TT)} {x:ah (aa TT)} {D:aa TT},D∈l->∀{s:Nat->AV} {a:Act} {w:aA},RD np px ac κ0 w0 N (gt D) s a w->∃D',l.foldl (fun x D=>RO x (some D)) x=some D'/\RD np px ac κ0 w0 N (gt D') s a w
 | [],x,D,h,_,_,_,_=>by simp at h
 | E::l,x,D,h,s,a,w,hR=>by
  rcases aY.1 h with rfl|h
  ·obtain ⟨D',h1,h2⟩:=amt (x:=x) rfl hR;exact ahg (l:=l) h1 h2
  ·exact asi (l:=l) h hR
theorem ay8:∀{C:Code} {h:HT} {D:aa TT} {cc:CC} {out:Out},oH P sigs np N h C D=some (cc,out)->∀{s:Nat->AV} {a:Act} {w:aA} {Q:Ex->(Nat->AV)->Prop},RD np px ac κ0 w0 N (gt D) s a w->W P cc s Q ->
  C.wp P (axa np px ac κ0 w0 N out Q) a w:=by
 intro C;induction C with
 | skip=>
  intro h D cc out hc s a w Q hR hW;have iW:oH P sigs np N h .skip D=some (.skip,⟨some D,[],[]⟩):=by cases h<;>rfl
  rw [iW] at hc;cases hc;exact wp_skip ⟨s,D,rfl,hW,hR⟩
 | ret=>
  intro h D cc out hc s a w Q hR hW;have iW:oH P sigs np N h .ret D=some (.ret,⟨none,[],[D]⟩):=by cases h<;>rfl
  rw [iW] at hc;cases hc;exact wp_ret ⟨s,D,by simp,hW,hR⟩
 | exit id=>
  intro h D cc out hc s a w Q hR hW;have iW:oH P sigs np N h (.exit id) D=some (.exit id,⟨none,[(id,D)],[]⟩):=by cases h<;>rfl
  rw [iW] at hc;cases hc;exact wp_exit ⟨s,D,by simp,hW,hR⟩
 | region id ops draw=>
  intro h D cc out hc s a w Q hR hW;obtain ⟨ops⟩:=ops;have iW:∃hs,(if draw then oG (aoX ops).1 fun c=>if c == idG ops.length then RP P sigs np N hs ops D else oG (aoX ops).2 fun d=>
   if okP ops.length (dig c) (sgm ops.length d) then RP P sigs np N hs (Dx ops ops.length (dig c) (sgm ops.length d)) D else none
  else match nT P sigs N D (fun _=>[]) hs 0 ops [] with
   | some rs=>if uZ np N D rs (fun j i=>decide (j<i)) (fun _=>[]) then some (CC.rg rs,(⟨some (Dw N D rs),[],[]⟩:Out)) else none
   | none=>none)=some (cc,out):=by
   cases h<;>exact ⟨_,hc⟩
  obtain ⟨hs,iW⟩:=iW;split at iW
  ·rename_i hd;subst hd;rw [NS] at iW;split at iW
   ·unfold RP at iW;split at iW;case h_2=>cases iW
    case h_1 rs lh=>
    split at iW;case isFalse=>cases iW
    case isTrue aT=>
    cases iW;simp only [aU] at aT;exact akH aT.1.1 aT.1.2 lh aT.2 hW (fun s a w hK hR=>⟨s,_,rfl,hK,hR⟩) hR
   ·rw [NS] at iW;split at iW;case isFalse=>cases iW
    case isTrue hp=>
    unfold RP at iW;split at iW;case h_2=>cases iW
    case h_1 rs lh=>
    split at iW;case isFalse=>cases iW
    case isTrue aT=>
    cases iW;simp only [aU] at aT;exact asg hp (fun j hj=>ay7 hj) aT.1.1 aT.1.2 lh aT.2 hW (fun s a w hK hR=>⟨s,_,rfl,hK,hR⟩) hR
  ·rename_i hd;have hd':draw=false:=by simpa using hd
   subst hd';split at iW;case h_2=>cases iW
   case h_1 rs lh=>
   split at iW;case isFalse=>cases iW
   case isTrue aT=>
   cases iW;exact akG lh aT hW (fun s a w hK hR=>⟨s,_,rfl,hK,hR⟩) hR
 | seq x y ihx ihy=>
  intro h D cc out hc s a w Q hR hW;cases h with
  | two ha hb=>
   simp only [oH] at hc;split at hc;case h_2=>cases hc
   case h_1 a' o G7=>
   split at hc
   ·rename_i hn;cases hc;simp only [W] at hW;refine wp_seq (wp_mono (ihx G7 hR hW) fun e a w hp => ?_);cases e with
    | normal=>obtain ⟨s,D,h1,_⟩:=hp;rw [hn] at h1;cases h1
    | exit id=>exact hp
    | ret=>exact hp
    | goto l=>exact hp
    | panic c=>exact hp
    | outgrown=>exact hp
   ·rename_i D' hn;rw [ar5] at hc;split at hc;case h_2=>cases hc
    case h_1 b' o' b_=>
    cases hc;simp only [W] at hW;refine wp_seq (wp_mono (ihx G7 hR hW) fun e a w hp => ?_);cases e with
    | normal=>
     obtain ⟨s,D1,h1,h2,h3⟩:=hp;rw [hn] at h1;cases h1;refine wp_mono (ihy b_ h3 h2) fun e a w hp => ?_
     cases e with
     | normal=>exact hp
     | exit id=>obtain ⟨s,D,h1,h2,h3⟩:=hp;exact ⟨s,D,bG.2 (.inr h1),h2,h3⟩
     | ret=>obtain ⟨s,D,h1,h2,h3⟩:=hp;exact ⟨s,D,bG.2 (.inr h1),h2,h3⟩
     | goto l=>exact hp
     | panic c=>exact hp
     | outgrown=>exact hp
    | exit id=>obtain ⟨s,D,h1,h2,h3⟩:=hp;exact ⟨s,D,bG.2 (.inl h1),h2,h3⟩
    | ret=>obtain ⟨s,D,h1,h2,h3⟩:=hp;exact ⟨s,D,bG.2 (.inl h1),h2,h3⟩
    | goto l=>exact hp
    | panic c=>exact hp
    | outgrown=>exact hp
  | _=>simp [oH] at hc
 | cond c x y ihx ihy=>
  intro h D cc out hc s a w Q hR hW;cases h with
  | two ha hb=>
   simp only [oH] at hc;split at hc;case h_2=>cases hc
   case h_1 X a' o b' o' hX G7 b_=>
   cases hc;simp only [W] at hW;obtain ⟨cv,hcv,hW⟩:=hW;obtain ⟨κ,tg,sv,hR0,hL⟩:=hR.st;obtain ⟨e1,_⟩:=uW hR0 hL hX hcv;refine wp_cond e1 ?_;cases cv with
   | true=>
    simp only [if_true] at hW ⊢;refine wp_mono (ihx G7 hR hW) fun e a w hp => ?_
    cases e with
    | normal=>obtain ⟨s,D,h1,h2,h3⟩:=hp;obtain ⟨D',h4,h5⟩:=ams (y:=o'.n) h1 h3;exact ⟨s,D',h4,h2,h5⟩
    | exit id=>obtain ⟨s,D,h1,h2,h3⟩:=hp;exact ⟨s,D,bG.2 (.inl h1),h2,h3⟩
    | ret=>obtain ⟨s,D,h1,h2,h3⟩:=hp;exact ⟨s,D,bG.2 (.inl h1),h2,h3⟩
    | goto l=>exact hp
    | panic c=>exact hp
    | outgrown=>exact hp
   | false=>
    simp only [iK,if_false] at hW ⊢;refine wp_mono (ihy b_ hR hW) fun e a w hp => ?_
    cases e with
    | normal=>obtain ⟨s,D,h1,h2,h3⟩:=hp;obtain ⟨D',h4,h5⟩:=amt (x:=o.n) h1 h3;exact ⟨s,D',h4,h2,h5⟩
    | exit id=>obtain ⟨s,D,h1,h2,h3⟩:=hp;exact ⟨s,D,bG.2 (.inr h1),h2,h3⟩
    | ret=>obtain ⟨s,D,h1,h2,h3⟩:=hp;exact ⟨s,D,bG.2 (.inr h1),h2,h3⟩
    | goto l=>exact hp
    | panic c=>exact hp
    | outgrown=>exact hp
  | _=>simp [oH] at hc
 | block id x ih=>
  intro h D cc out hc s a w Q hR hW;cases h with
  | one h=>
   simp only [oH] at hc;split at hc;case h_2=>cases hc
   case h_1 b' o b_=>
   cases hc;simp only [W] at hW;refine wp_block (wp_mono (ih b_ hR hW) fun e a w hp => ?_);cases e with
   | normal=>
    obtain ⟨s,D,h1,h2,h3⟩:=hp;obtain ⟨D',h4,h5⟩:=ahg (l:=o.ex.filterMap fun p=>if p.1=id then some p.2 else none) h1 h3;exact ⟨s,D',h4,h2,h5⟩
   | exit id'=>
    obtain ⟨s,D,h1,h2,h3⟩:=hp;simp only [Jj] at h2;simp only [Exit.inBlock];by_cases jC:id'=id
    ·rw [if_pos jC] at h2 ⊢;obtain ⟨D',h4,h5⟩:=asi (l:=o.ex.filterMap fun p=>if p.1=id then some p.2 else none) (x:=o.n) (D:=D) (List.mem_filterMap.2 ⟨(id',D),h1,by simp [jC]⟩) h3;exact ⟨s,D',h4,h2,h5⟩
    ·rw [if_neg jC] at h2 ⊢;exact ⟨s,D,jK.2 ⟨h1,by simpa using jC⟩,h2,h3⟩
   | ret=>exact hp
   | goto l=>exact hp
   | panic c=>exact hp
   | outgrown=>exact hp
  | _=>simp [oH] at hc
 | loop x ih=>
  intro h D cc out hc s a w Q hR hW;cases h with
  | loop dl h=>
   simp only [oH] at hc;rw [ar5] at hc;split at hc;case h_2=>cases hc
   case h_1 b' o b_=>
   split at hc;case isFalse=>cases hc
   case isTrue cZ=>
   cases hc;simp only [aU] at cZ;simp only [W] at hW;obtain ⟨n,hW⟩:=hW;refine wp_loop_rounds n ?_;have key:∀n s a w,RD np px ac κ0 w0 N (gt (ash dl D)) s a w->rnd (W P b') Q n s->Code.rounds P x (axa np px ac κ0 w0 N ⟨none,o.ex,o.rt⟩ Q) n a w:=by
    intro n;induction n with
    | zero=>intro s a w _ h;exact h
    | succ n ihn=>
     intro s a w hR hr;rw [rounds_succ];refine wp_mono (ih b_ hR hr) fun e a w hp => ?_
     cases e with
     | normal=>
      obtain ⟨s,D1,h1,h2,h3⟩:=hp;have h4:=cZ.2;rw [h1] at h4;exact ihn s a w (h3.le (Ye h4)) h2
     | exit id=>exact hp
     | ret=>exact hp
     | goto l=>exact hp
     | panic c=>exact hp
     | outgrown=>exact hp
   exact key n s a w (hR.le (Ye cZ.1)) hW
  | _=>simp [oH] at hc
 | _=>intro h D cc out hc;cases h<;>simp [oH] at hc
end
end Go.Fw
namespace Go.Fw
def abY (i k:Nat):CT->CT
 | .sl (.own _) e=>.sl (.own (some (i,k))) e
 | c=>c
def Yg (i:Nat) (cs:aa CT):aa CT:=cs.mapIdx fun k c=>abY i k c
def RQ (i:Nat):PM->TT
 | .rd ag cs=>.val ag (CT.roizes [i] cs)
 | .tk ag cs=>.val ag cs
 | .mt ag cs=>.val ag (Yg i cs)
 | .mp cs=>.box cs
def inD (sg:aL) (N:Nat):aa TT:=sg.ps.mapIdx RQ++List.replicate (N-sg.ps.length) .dead
def inS (args:aa (aa A)) (t:Nat):AV:=
 match args[t]? with
 | some as=>.v as []
 | none=>.n
def avM:PM->Bool
 | .rd _ _=>true
 | .tk _ cs=>iD cs
 | .mt _ cs=>iD cs
 | .mp cs=>iD cs
def ahi (sg:aL) (xs:aa aj) (i k:Nat):aj:=
 match sg.ps[i]?,xs[i]? with
 | some (.mt ag _),some x=>((cellsOf ag x).getD []).getD k undef
 | _,_=>undef
theorem aoY (i k:Nat) (c:CT):(abY i k c).unpin=c.unpin:=by
 cases c with
 | d=>rfl
 | sl m e=>cases m<;>rfl
theorem ahj (i:Nat) (cs:aa CT):CT.unpins (Yg i cs)=CT.unpins cs:=by
 have key:∀(cs:aa CT) (f:Nat->CT->CT),(∀k c,(f k c).unpin=c.unpin)->CT.unpins (cs.mapIdx f)=CT.unpins cs:=by
  intro cs;induction cs with
  | nil=>intro f _;rfl
  | cons c cs ih=>
   intro f hf;rw [List.mapIdx_cons];simp only [CT.unpins,hf];rw [ih (fun k=>f (k+1)) fun k c=>hf (k+1) c]
 exact key cs _ (aoY i)
theorem ahk (i:Nat) (cs:aa CT):(Yg i cs).length=cs.length:=by simp [Yg]
theorem aAu {sg:aL} {N t:Nat} {pm:PM} (h:sg.ps[t]?=some pm):gt (inD sg N) t=RQ t pm:=by
 have hl:=(aZ h).1;unfold gt inD;rw [dw,rE (by simpa using hl),List.getElem?_mapIdx,h];rfl
theorem asl {sg:aL} {N t:Nat} (h:sg.ps.length<=t):gt (inD sg N) t = .dead:=by
 unfold gt inD;rw [dw,uT (by simpa using h),af3];split<;>rfl
theorem Yh (S:aa Nat):∀{cs:aa CT} {k:Nat} {p:ah (Nat × Nat)} {e:aa CT},(CT.roizes S cs)[k]?≠some (.sl (.own p) e)
 | [],k,p,e=>by simp [CT.roizes]
 | c::cs,0,p,e=>by
  cases c<;>simp [CT.roizes,CT.roize]
 | c::cs,k+1,p,e=>by
  simp only [CT.roizes,Xy];exact Yh S
section
variable {sg:aL} {κ:aQ} {w:aA} {xs:aa aj} {args:aa (aa A)} {N:Nat}
theorem aAv (kz:∀b,w.heap.size<=b->κ b=none) (Ns:xs.length=sg.ps.length) (Bp:args.length=sg.ps.length)
  (G8:∀i pm x as,sg.ps[i]?=some pm->xs[i]?=some x->args[i]?=some as->pI κ w i x as pm) (hN:sg.ps.length<=N) (hNF:N<=FB) (kC:sg.ps.all avM=true) :
  R (ahi sg xs) κ w κ w N (gt (inD sg N)) (inS args) (fun t=>xs.getD t undef):=by
 refine ⟨fun t => ?_,fun t ht=>asl (by omega),kz,⟨eX _,fun b _ h=>⟨h,rfl⟩,rfl,rfl,rfl⟩,fun b q h=>⟨h,Same.refl w b⟩,hNF⟩;cases hp:sg.ps[t]? with
 | none=>rw [asl (List.getElem?_eq_none_iff.1 hp)];simp [TR]
 | some pm=>
  have hl:=(aZ hp).1;have hx:xs[t]?=some xs[t]:=by simp [Ns,hl]
  have ha:args[t]?=some args[t]:=by simp [Bp,hl]
  have hA:=G8 t pm _ _ hp hx ha;have jB:inS args t = .v args[t] []:=by unfold inS;rw [ha]
  have qf:xs.getD t undef=xs[t]:=by rw [dw,hx];rfl
  have hpk:avM pm=true:=(bW.1 kC) pm (eY hp);rw [aAu hp];cases pm with
  | rd ag cs=>
   obtain ⟨vs,h1,h2,h3⟩:=hA;simp only [RQ,TR,jB,qf];exact ⟨_,vs,rfl,h1,by rw [dD];exact h2,fun k j c e hc=>absurd hc (Yh _),h3⟩
  | tk ag cs=>
   obtain ⟨vs,h1,h2,h3⟩:=hA;simp only [RQ,TR,jB,qf];exact ⟨_,vs,rfl,h1,h2,gp hpk,h3⟩
  | mt ag cs=>
   obtain ⟨vs,h1,h2,h3⟩:=hA;simp only [RQ,TR,jB,qf];refine ⟨_,vs,rfl,h1,by rw [ahk];exact h2,fun k j c e hc => ?_,?_⟩
   ·have hjc:j=t/\c=k:=by
     unfold Yg at hc;rw [List.getElem?_mapIdx] at hc;cases He:cs[k]? with
     | none=>rw [He] at hc;simp at hc
     | some c0=>
      rw [He] at hc;simp only [dx,aN] at hc;cases c0 with
      | d=>simp [abY] at hc
      | sl m e0=>
       cases m with
       | own p=>simp only [abY,CT.sl.injEq,Md.own.injEq,aN,di] at hc;exact ⟨hc.1.1.symm,hc.1.2.symm⟩
       | ro S=>simp [abY] at hc
       | dead=>simp [abY] at hc
    obtain ⟨rfl,rfl⟩:=hjc;unfold ahi;rw [hp,hx];simp only [h1];rfl
   ·have:=fV.2 h3;rw [<-ahj t] at this;exact fV.1 this
  | mp cs=>
   obtain ⟨b,h1,h2,h3,h4,h5⟩:=hA;simp only [RQ,TR,jB,qf];exact ⟨_,b,rfl,h1,h2,h3,h4,gp hpk,h5⟩
end
end Go.Fw
namespace Go.Fw
structure Ent where
 r:Nat
 lo:Nat
 n:Nat
 d:Nat
 b:Nat
def Ent.hit (e:Ent) (r j:Nat):Bool:=(e.r == r)&&decide (e.lo<=j)&&decide (j<e.lo+e.n)
def p9 (es:aa Ent) (zs:aa (Nat × Nat)):Pl->ah Pl
 | (r,j::q)=>(es.find? fun e=>e.hit r j).map fun e=>(e.d,(e.b+(j-e.lo))::q)
 | (r,[])=>(zs.find? fun p=>p.1 == r).map fun p=>(p.2,[])
def ul (κ0 κ:aQ) (F:Pl->ah Pl):aQ:=fun b=>
 match κ0 b with
 | some (r,q)=>if r=FB then some (FB,q) else (κ b).bind F
 | none=>(κ b).bind F
def Kw (es:aa Ent) (t off n d base:Nat):Bool:=(List.range n).all fun k=>match es.find? (fun e=>e.hit t (off+k)) with
 | some e=>(e.d == d)&&(e.b+(off+k-e.lo) == base+k)
 | none=>false
def aga (sg:aL) (es:aa Ent) (zs:aa (Nat × Nat)) (cs:aa CT):Bool:=(CT.srcss cs).all fun r=>(match sg.ps[r]? with
 | some pm=>!pm.mut
 | none=>false)&&es.all (fun e=>e.r != r)&&zs.all (fun z=>z.1 != r)
section
variable {ac:Nat->Nat->aj} {κ0 κ:aQ} {w0 w:aA} {N:Nat} {tg:Nat->TT} {sv:Nat->AV} {tm:Nat->aj} {es:aa Ent} {zs:aa (Nat × Nat)} {sg:aL}
theorem NT (h:R ac κ0 w0 κ w N tg sv tm) {F:Pl->ah Pl} {b r:Nat} {q:aa Nat} (hk:κ b=some (r,q)) (hr:r≠FB):ul κ0 κ F b=F (r,q):=by
 unfold ul;split
 ·rename_i r0 q0 h0;split
  ·rename_i he;subst he;have:=(h.fb b q0 h0).1;rw [hk] at this;cases this;exact absurd rfl hr
  ·rw [hk];rfl
 ·rw [hk];rfl
theorem NU {F:Pl->ah Pl} {b r:Nat} {q:aa Nat} (hk:ul κ0 κ F b=some (r,q)):(r=FB/\κ0 b=some (FB,q))\/∃r0 q0,κ b=some (r0,q0)/\F (r0,q0)=some (r,q):=by
 unfold ul at hk;have main:(κ b).bind F=some (r,q)->∃r0 q0,κ b=some (r0,q0)/\F (r0,q0)=some (r,q):=fun h=>by
  simp only [Cf] at h;obtain ⟨⟨r0,q0⟩,h1,h2⟩:=h;exact ⟨r0,q0,h1,h2⟩
 split at hk
 ·rename_i r0 q0 h0;split at hk
  ·rename_i he;subst he;cases hk;exact .inl ⟨rfl,h0⟩
  ·exact .inr (main hk)
 ·exact .inr (main hk)
theorem avN {cs:aa CT} (h:aga sg es zs cs=true) {r:Nat} (hr:r∈CT.srcss cs):(∃pm,sg.ps[r]?=some pm/\pm.mut=false)/\(∀e,e∈es->e.r≠r)/\∀z,z∈zs->z.1≠r:=by
 have:=(bW.1 h) r hr;simp only [aU,bW,bne_iff_ne] at this;refine ⟨?_,this.1.2,this.2⟩;have h1:=this.1.1;split at h1
 ·rename_i pm kC;exact ⟨pm,kC,by simpa using h1⟩
 ·cases h1
def GoodS (sg:aL) (es:aa Ent) (zs:aa (Nat × Nat)) (S:aa Nat):Prop:=∀r,r∈S->r<sg.ps.length/\(∀e,e∈es->e.r≠r)/\∀z,z∈zs->z.1≠r
theorem aAw (h:R ac κ0 w0 κ w N tg sv tm) (hN:sg.ps.length<=N) {S:aa Nat} (hS:GoodS sg es zs S) {b:Nat} (hb:bg κ w S b):bg (ul κ0 κ (p9 es zs)) w S b:=by
 refine ⟨hb.1,fun r p hk => ?_⟩;exfalso;rcases NU hk with ⟨rfl,h0⟩|⟨r0,q0,h1,h2⟩
 ·have h1:=(h.fb b p h0).1;have h2:=(hS _ (hb.2 _ _ h1).1).1;have:=h.nle;omega
 ·have h3:=hS _ (hb.2 _ _ h1).1;cases q0 with
  | nil=>
   simp only [p9,dh] at h2;obtain ⟨z,hz,_⟩:=h2;have h4:=List.find?_some hz;exact h3.2.2 z (abB hz) (by simpa using h4)
  | cons j q=>
   simp only [p9,dh] at h2;obtain ⟨e,he,_⟩:=h2;have h4:=List.find?_some he;simp only [Ent.hit,aU,beq_iff_eq] at h4;exact h3.2.1 e (abB he) h4.1.1
theorem Yi {cs:aa CT} (h:aga sg es zs cs=true):CT.allSs (GoodS sg es zs) cs:=by
 refine (Cm (P:=fun r=>r<sg.ps.length/\(∀e,e∈es->e.r≠r)/\∀z,z∈zs->z.1≠r)).2 fun r hr => ?_
 obtain ⟨⟨pm,h1,_⟩,h2,h3⟩:=avN h hr;exact ⟨(aZ h1).1,h2,h3⟩
theorem amv (h:R ac κ0 w0 κ w N tg sv tm) (hN:sg.ps.length<=N) {t off d base:Nat} (ht:t≠FB) {cs:aa CT} {get get':Nat->aj} {as:aa A} (Ra:(CT.nowns cs || Kw es t off cs.length d base)=true)
  (aCv:CT.allSs (GoodS sg es zs) cs) (hg:∀i,i<cs.length->get' (base+i)=get (off+i)) (hr:aB κ w cs (t,[]) off get as):aB (ul κ0 κ (p9 es zs)) w cs (d,[]) base get' as:=by
 have bq:∀S,GoodS sg es zs S->∀b,bg κ w S b->bg (ul κ0 κ (p9 es zs)) w S b/\Same w w b:=fun S hS b hb=>⟨aAw h hN hS hb,Same.refl w b⟩
 cases hn:CT.nowns cs with
 | true=>exact jL bq hn aCv hg hr
 | false=>
  rw [hn] at Ra;simp only [wD,Kw,bW] at Ra;have:=fQ (f:=id) (p':=(d,[])) (κ':=ul κ0 κ (p9 es zs)) (w':=w) (fun S hS b hb=>bq S hS b hb) aCv (fun i hi b q hb => ?_) hg hr
  ·rwa [iM] at this
  ·refine ⟨?_,Same.refl w b⟩;simp only [gQ] at hb ⊢;rw [NT h hb ht];have h1:=Ra i (iY.2 hi);split at h1
   ·rename_i e he;simp only [aU,beq_iff_eq] at h1;simp only [p9,he,dx,h1.1,h1.2]
   ·cases h1
end
structure Yj where
 reg:Nat
 t:Nat
 off:Nat
 ag:Bool
 cs:List CT
def rvX (P:aS) (D:aa TT):ResultVar->ah Yj
 | .tmp t=>match gt D t with
  | .val ag cs=>some ⟨t,t,0,ag,cs⟩
  | .alias ag cs r [] off _=>match (gt D r).cts with
   | some crs=>if off+cs.length<=crs.length then some ⟨t,r,off,ag,(crs.drop off).take cs.length⟩ else none
   | none=>none
  | _=>none
 | .cell a ty=>match gt D a,wI P ty,P.info? ty with
  | .box cs,some ag,some i=>if i.size=cs.length/\(ag=true\/i.size=1)/\CT.lives cs=true then some ⟨a,a,0,ag,cs⟩ else none
  | _,_,_=>none
def Hu (P:aS) (D:aa TT):aa ResultVar->ah (aa Yj)
 | []=>some []
 | v::vs=>match rvX P D v,Hu P D vs with
  | some I,some Is=>some (I::Is)
  | _,_=>none
def RU (s:Nat->AV):aa Yj->ah (aa A)
 | []=>some []
 | I::Is=>match iO I.reg s,RU s Is with
  | some as,some r=>some (as++r)
  | _,_=>none
def RV (tmps:Array aj):ResultVar->Sem aj
 | .tmp t=>pure (tmps.getD t undef)
 | .cell a t=>do loadVar t (<-asAddr (tmps.getD a undef))
theorem asn {α β:Type} {P:aS} {f:α->Sem β} {w:aA} {as:Array α} {bs:aa β} (h:∀(i:Nat) a,as.toList[i]?=some a->∃b:β,bs[i]?=some b/\(f a).run P w = .ok b w) (hl:bs.length=as.toList.length):(as.mapM f).run P w = .ok bs.toArray w:=by
 rw [@Array.mapM_eq_foldlM Sem α β _ acT f as,<-Array.foldlM_toList];have key:∀(l:aa α) (bs:aa β) (acc:Array β),bs.length=l.length->(∀(i:Nat) a,l[i]?=some a->∃b:β,bs[i]?=some b/\(f a).run P w = .ok b w)->(l.foldlM (fun bs a=>bs.push <$> f a) acc:Sem (Array β)).run P w = .ok (acc++bs.toArray) w:=by
  intro l;induction l with
  | nil=>intro bs acc hb _;cases bs with
   | nil=>simp [List.foldlM,run_pure]
   | cons=>simp at hb
  | cons a l ih=>
   intro bs acc hb hl;cases bs with
   | nil=>simp at hb
   | cons b bs=>
    simp only [List.foldlM_cons];obtain ⟨b',h1,h2⟩:=hl 0 a rfl;simp at h1;subst h1;have:(acc.push <$> f a:Sem (Array β)).run P w = .ok (acc.push b) w:=by
     show ((f a) >>= fun b=>pure (acc.push b)).run P w=_;rw [aI h2];rfl
    rw [aI this,ih bs _ (by simpa using hb) fun i a hi=>by
     obtain ⟨b,h3,h4⟩:=hl (i+1) a (by simpa using hi)
     exact ⟨b,by simpa using h3,h4⟩]
    congr 1;apply Array.ext';simp
 rw [key as.toList bs #[] hl h];congr 1;apply Array.ext';simp
theorem akI {P:aS} {t:TypeId} {i:TypeInfo} {g:Bool} {b o:Nat} {w:aA} (hi:P.info? t=some i) (hg:wI P t=some g) (h1:g=false->i.size=1)
  (h:Rdb w b o (o+i.size)):∃v,(loadVar t ⟨b,o,none⟩).run P w = .ok v w/\(g=true->v = .agg ((List.range i.size).map fun k=>cellD w b (o+k)).toArray)/\(g=false->v=cellD w b o):=by
 obtain ⟨v,hv,h2,h3⟩:=XN hi hg h1 h;refine ⟨v,?_,h2,h3⟩;unfold Instr.loadAt at hv;have hs:(Instr.sureAddr (.pointer (some ⟨b,o,none⟩))).run P w = .ok ⟨b,o,none⟩ w:=rfl;rw [aI hs] at hv;exact hv
section
variable {P:aS} {ac:Nat->Nat->aj} {κ0 κ:aQ} {w0 w:aA} {N:Nat} {tg:Nat->TT} {sv s:Nat->AV} {a:Act} {D:aa TT}
theorem aDc (h:R ac κ0 w0 κ w N tg sv (gm a)) (hL:Le (gt D) s tg sv) {rv:ResultVar} {I:Yj} (hI:rvX P D rv=some I) {as:aa A} (hs:iO I.reg s=some as) :
  ∃x vs get,(RV a.tmps rv).run P w = .ok x w/\cellsOf I.ag x=some vs/\vs.length=I.cs.length/\I.t<N/\(∀k,k<I.cs.length->get (I.off+k)=vs.getD k undef)/\aB κ w I.cs (I.t,[]) I.off get as:=by
 have lt:∀t,tg t≠.dead->t<N:=fun t ht=>by
  apply sM;intro cZ;exact ht (h.out t cZ)
 obtain ⟨is,hs⟩:=cO hs;cases rv with
 | tmp t=>
  simp only [rvX] at hI;split at hI
  ·rename_i ag cs hT;cases hI;obtain ⟨e1,e2⟩:=hL.at hT (by simp);have h1:=h.tr t;rw [e1] at h1;simp only [TR] at h1;obtain ⟨as',vs,g1,g2,g3,_,g5⟩:=h1;rw [e2,hs] at g1;cases g1;exact ⟨gm a t,vs,_,rfl,g2,g3,lt t (by rw [e1];simp),fun k _=>by simp,g5⟩
  ·rename_i ag cs r off S hT;split at hI;case h_2=>cases hI
   case h_1 crs qj=>
   split at hI;case isFalse=>cases hI
   case isTrue yj=>
   cases hI;obtain ⟨e1,e2⟩:=hL.at hT (by simp);obtain ⟨awR,_⟩:=AB hL qj;have h1:=h.tr t;rw [e1] at h1;simp only [TR] at h1;obtain ⟨as',is',vs,g,ra,row,g1,g2,g3,_,g5,g6,_,_,_,g9,g10,g11,g12⟩:=h1;rw [e2,hs] at g1;cases g1;have eZ:=h.root awR g10;cases is with
   | cons=>simp [f_] at g6
   | nil=>
   simp only [f_,aN] at g6;subst g6;simp only [bZ,aN] at g11;subst g11;have cB:=mJ cs.length (mI off eZ);rw [dE] at cB;refine ⟨gm a t,vs,_,rfl,g2,by simp;omega,lt r (fun hd=>by rw [hd] at awR;simp [TT.cts] at awR),fun k hk => ?_,by rw [g12];exact cB⟩;simp only [iy,sN] at hk;exact (g9 k (by omega)).1
  ·cases hI
 | cell t ty=>
  simp only [rvX] at hI;split at hI;case h_2=>cases hI
  case h_1 cs ag i hT Nr hi=>
  split at hI;case isFalse=>cases hI
  case isTrue hc=>
  cases hI;obtain ⟨dF,aq_,lJ⟩:=hc;obtain ⟨e1,e2⟩:=hL.at hT (by simp);have h1:=h.tr t;rw [e1] at h1;simp only [TR] at h1;obtain ⟨as',b,g1,g2,g3,g4,g5,_,g7⟩:=h1;rw [e2,hs] at g1;cases g1;obtain ⟨v,hv,k1,k0⟩:=akI (P:=P) (w:=w) (b:=b) (o:=0) hi Nr (fun hf=>by rcases aq_ with h1|h1<;>simp_all) (by rw [dF,dE];exact g5.rdb);have eO:(RV a.tmps (.cell t ty)).run P w = .ok v w:=by
   have:a.tmps.getD t undef = .pointer (some ⟨b,0,none⟩):=g2;show (do loadVar ty (<-asAddr (a.tmps.getD t undef)):Sem aj).run P w=_;rw [this];have hs:(asAddr (.pointer (some ⟨b,0,none⟩))).run P w = .ok ⟨b,0,none⟩ w:=rfl;rw [aI hs];exact hv
  cases ag with
  | true=>
   refine ⟨v,(List.range i.size).map fun k=>cellD w b k,_,eO,?_,by simpa using dF,lt t (by rw [e1];simp),fun k hk => ?_,g7⟩
   ·rw [k1 rfl];simp [cellsOf]
   ·simp only at hk;rw [dE,dw,kE,Rm (by omega)];rfl
  | false=>
   have h1:i.size=1:=by rcases aq_ with h1|h1<;>simp_all
   refine ⟨v,[v],_,eO,?_,by simp [<-dF,h1],lt t (by rw [e1];simp),fun k hk => ?_,g7⟩
   ·have Cc:=VT lJ g7 0 (by omega);have aX:=Rw Cc;rw [k0 rfl];simp only [pY] at aX ⊢;cases hx:cellD w b 0 with
    | agg l=>exact absurd hx (aX l).1
    | tuple l=>exact absurd hx (aX l).2
    | _=>simp [cellsOf]
   ·have:k=0:=by simp only at hk;omega
    subst this;rw [k0 rfl];rfl
end
def Jk (sg:aL) (es:aa Ent) (zs:aa (Nat × Nat)) (np:Nat):aa Yj->Nat->Bool
 | [],_=>true
 | I::Is,b=>(CT.nowns I.cs || Kw es I.t I.off I.cs.length np b)&&aga sg es zs I.cs&&Jk sg es zs np Is (b+I.cs.length)
section
variable {P:aS} {ac:Nat->Nat->aj} {κ0 κ:aQ} {w0 w:aA} {N:Nat} {tg:Nat->TT} {sv s:Nat->AV} {a:Act} {D:aa TT} {sg:aL} {es:aa Ent} {zs:aa (Nat × Nat)}
theorem V5 (h:R ac κ0 w0 κ w N tg sv (gm a)) (hL:Le (gt D) s tg sv) (hN:sg.ps.length<=N) {np:Nat}:∀{rvs:aa ResultVar} {Is:aa Yj} {base:Nat} {as:aa A} {pre:aa aj},Hu P D rvs=some Is->Jk sg es zs np Is base=true ->
  RU s Is=some as->pre.length=base ->
  ∃(xs vs:aa aj),xs.length=rvs.length/\(∀(i:Nat) rv,rvs[i]?=some rv->∃x,xs[i]?=some x/\(RV a.tmps rv).run P w = .ok x w)/\uJ (Is.map fun I=>(I.ag,I.cs.length)) xs=some vs/\vs.length=(Is.flatMap (·.cs)).length /\
   (∀I,Is=[I]->∃x,xs=[x]/\cellsOf I.ag x=some vs)/\aB (ul κ0 κ (p9 es zs)) w (Is.flatMap (·.cs)) (np,[]) base (fun k=>(pre++vs).getD k undef) as
 | [],Is,base,as,pre,hx,_,hg,_=>by
  simp only [Hu,aN] at hx;subst hx;simp only [RU,aN] at hg;subst hg;exact ⟨[],[],rfl,by simp,rfl,rfl,by simp,by simp [aB]⟩
 | rv::rvs,Is,base,as,pre,hx,aT,hg,hp=>by
  simp only [Hu] at hx;split at hx;case h_2=>cases hx
  case h_1 I Is' hI hIs=>
  cases hx;simp only [Jk,aU] at aT;simp only [RU] at hg;split at hg;case h_2=>cases hg
  case h_1 a1 r1 hg1 hg2=>
  cases hg;obtain ⟨x,vs,get,g1,g2,g3,g4,gg,g5⟩:=aDc h hL hI hg1;obtain ⟨xs,ws,k1,k2,k3,k4,k5,k6⟩:=V5 (np:=np) (pre:=pre++vs) (base:=base+I.cs.length) h hL hN hIs aT.2 hg2 (by simp [hp,g3]);refine ⟨x::xs,vs++ws,by simp [k1],fun i rv' hi => ?_,?_,by simp [g3,k4],fun J hJ => ?_,?_⟩
  ·cases i with
   | zero=>simp at hi;subst hi;exact ⟨x,rfl,g1⟩
   | succ i=>obtain ⟨y,h1,h2⟩:=k2 i rv' (by simpa using hi);exact ⟨y,by simpa using h1,h2⟩
  ·simp only [bv,uJ,g2,k3,g3,if_true]
  ·simp only [Rs] at hJ;obtain ⟨rfl,rfl⟩:=hJ;simp only [bI] at k3;cases xs with
   | nil=>
    simp only [uJ,aN] at k3;subst k3;exact ⟨x,rfl,by simpa using g2⟩
   | cons=>simp [uJ] at k3
  ·simp only [XH];refine Ci (amv h hN (by have:=h.nle;omega) aT.1.1 (Yi aT.1.2) (fun i hi => ?_) g5) ?_
   ·rw [gg i hi,dw,dw,uT (by omega),hp,Nat.add_sub_cancel_left,rE (by omega)]
   ·rw [<-lK];exact k6
end
end Go.Fw
