/- A way of showing what a function computes: the blocks of the heap are owned by the places that mh them; this is a part of it. No conditions. -/
import Derived.Test.YtbdciplhpomakaaGreatG2
import Derived.LoopN
set_option linter.unusedSectionVars false
namespace Go.Fw
def aDE:Stp:=⟨[],fun T=>T,[],.det fun _=>none⟩
def acg (rs:aa OpR) (r:bN) (i:Nat):Stp:=match rs[i]? with
 | some o=>o.S ((o.cb (r.sL allT i)).getD true)
 | none=>aDE
section
variable {P:aS} {sigs:FuncId->ah aM} {N:Nat} {D0l:aa TT} {jI:Nat->aa Nat} {nA:aa Hint} {l:aa bQ} {rs:aa OpR} {bef:Nat->Nat->Bool} {s0:Nat->AV} {np:Nat->Bool} {px:Nat->aj} {wl:aa Bool} {vl:aa (aa AV)}
def Ww (rs:aa OpR) (r:bN) (wl:aa Bool) (p:Nat × Bool):Prop:=wl.getD p.1 false=true/\∃t,A7 rs p.1=some t/\kT (r.sL allT (p.1+1)) t=some p.2
theorem DN {i t:Nat}:(bF rs bef (gt D0l) s0 np px wl vl).Wd i t↔t∈uj rs i:=by
 simp only [bN.Wd,bF,uj,bJ,Kv]
theorem ahw {c:Nat}:∀{pre:aa OpR} {j:Nat},idxOf c pre=some j->j<pre.length/\∃o,pre[pre.length-1-j]?=some o/\o.d=some c
 | [],j,h=>by simp [idxOf] at h
 | o::pre,j,h=>by
  simp only [idxOf] at h;split at h
  ·rename_i hd;cases h;exact ⟨by simp,o,by simp,by simpa using hd⟩
  ·obtain ⟨h1,o',h2,h3⟩:=ahw h;refine ⟨by simp;omega,o',?_,h3⟩;rw [bI,show pre.length+1-1-j=(pre.length-1-j)+1 from by omega];simpa using h2
theorem Ol (aV:vo np N D0l rs bef jI=true) (hW:∀(i:Nat) (o:OpR),rs[i]?=some o->wl.getD i false=nX rs wl ((bF rs bef (gt D0l) s0 np px wl vl).sL allT i) o) {i:Nat} {o:OpR} (ho:rs[i]?=some o) {p:Nat × Bool}
  (hg:o.gd=some p):wl.getD i false=true↔Ww rs (bF rs bef (gt D0l) s0 np px wl vl) wl p:=by
 obtain ⟨j,b⟩:=p;obtain ⟨_,_,_,_,h5,_,_⟩:=oN aV ho;obtain ⟨_,iA,⟨t,ht,rM,_,_⟩,_⟩:=h5 j b hg;have hi:=(bf ho).1;have hs:=asD (r:=bF rs bef (gt D0l) s0 np px wl vl) (L:=allT) (j:=j) (t:=t) (fun k hk hw=>rM k hk (DN.1 hw)) i iA (by simp only [bF];omega);rw [hW i o ho];unfold nX Ww;rw [hg];simp only [ht];have hb:kT ((bF rs bef (gt D0l) s0 np px wl vl).sL allT i) t=kT ((bF rs bef (gt D0l) s0 np px wl vl).sL allT (j+1)) t:=by unfold kT;rw [hs]
 rw [hb];constructor
 ·intro h;simp only [aU] at h;refine ⟨h.1,t,rfl,?_⟩;have h2:=h.2;cases hbo:kT ((bF rs bef (gt D0l) s0 np px wl vl).sL allT (j+1)) t with
  | none=>rw [hbo] at h2;cases h2
  | some c=>rw [hbo] at h2;simp only [beq_iff_eq] at h2;rw [h2]
 ·rintro ⟨h1,t',nH,h2⟩;cases nH;rw [h1,h2];simp
theorem rev_at {pre post:aa OpR} {i j:Nat} (lG:rs=pre++post) (hl:pre.length=i) (hj:j<i):pre.reverse[pre.reverse.length-1-j]?=rs[j]?:=by
 rw [List.length_reverse,hl,List.getElem?_reverse (by omega)];rw [lG,rQ (by omega)];congr 1;omega
theorem Yw (aV:vo np N D0l rs bef jI=true) (hW:∀(i:Nat) (o:OpR),rs[i]?=some o->wl.getD i false=nX rs wl ((bF rs bef (gt D0l) s0 np px wl vl).sL allT i) o) {i:Nat} (hi:i<=rs.length) :
  ∀(f:Nat) (gd:ah (Nat × Bool)),(∀p,gd=some p->p.1<i/\Ww rs (bF rs bef (gt D0l) s0 np px wl vl) wl p)->∀q,q∈chR (rs.take i).reverse f gd->q.1<i/\Ww rs (bF rs bef (gt D0l) s0 np px wl vl) wl q
 | 0,_,_,q,hq=>by simp [chR] at hq
 | f+1,none,_,q,hq=>by simp [chR] at hq
 | f+1,some (j,b),h,q,hq=>by
  obtain ⟨iA,hh⟩:=h _ rfl;simp only [chR,a_] at hq;rcases hq with rfl|hq
  ·exact ⟨iA,hh⟩
  ·rw [rev_at (rs:=rs) (pre:=rs.take i) (post:=rs.drop i) (i:=i) (by simp) (by simp;omega) iA] at hq;cases FR:rs[j]? with
   | none=>rw [FR] at hq;simp at hq
   | some oj=>
    rw [FR] at hq;simp only at hq;refine Yw aV hW hi f oj.gd (fun p hp => ?_) q hq;obtain ⟨_,_,_,_,h5,_,_⟩:=oN aV FR;obtain ⟨_,yT,_⟩:=h5 p.1 p.2 hp;exact ⟨by omega,(Ol aV hW FR hp).1 hh.1⟩
theorem Wx (aV:vo np N D0l rs bef jI=true) (hW:∀(i:Nat) (o:OpR),rs[i]?=some o->wl.getD i false=nX rs wl ((bF rs bef (gt D0l) s0 np px wl vl).sL allT i) o) {ch:aa (Nat × Bool)} (NI:∀q,q∈ch->Ww rs (bF rs bef (gt D0l) s0 np px wl vl) wl q)
  {j:Nat} {o:OpR} (ho:rs[j]?=some o) (hg:okg ch o.gd=true):wl.getD j false=true:=by
 cases BG:o.gd with
 | none=>rw [hW j o ho];unfold nX;rw [BG]
 | some p=>
  rw [BG] at hg;simp only [okg] at hg;exact (Ol aV hW ho BG).2 (NI p (by simpa using hg))
theorem amK {t:Nat} (h:D0l[t]?=none):gt D0l t = .dead:=by unfold gt;rw [dw,h];rfl
theorem amL {t:Nat} {T:TT} (h:D0l[t]?=some T):gt D0l t=T:=by unfold gt;rw [dw,h];rfl
theorem aFE (aV:vo np N D0l rs bef jI=true) (hW:∀(i:Nat) (o:OpR),rs[i]?=some o->wl.getD i false=nX rs wl ((bF rs bef (gt D0l) s0 np px wl vl).sL allT i) o) {i:Nat} {o:bQ} {x:OpR} {h:Hint} (hx:rs[i]?=some x)
  (hc:DL P sigs N D0l (rs.take i).reverse (jI i) h o=some x) (hw:wl.getD i false=true) {b:Bool} (hb:x.cb ((bF rs bef (gt D0l) s0 np px wl vl).sL allT i)=some b) (t:Nat) :
  x.g b t = .dead\/(x.g b t=(bF rs bef (gt D0l) s0 np px wl vl).dL (bN.lt i) i t/\t∉jI i):=by
 have hi:=(bf hx).1;have BG:∀p,x.gd=some p->p.1<i/\Ww rs (bF rs bef (gt D0l) s0 np px wl vl) wl p:=fun p hp=>by
  obtain ⟨_,_,_,_,h5,_,_⟩:=oN aV hx;exact ⟨(h5 p.1 p.2 hp).2.1,(Ol aV hW hx hp).1 hw⟩
 have hxg:x.gd=o.guard:=(adF hc).gd;have NI:=fun q hq=>Yw aV hW (i:=i) (by omega) ((rs.take i).reverse.length+1) o.guard (fun p hp=>BG p (by rw [hxg,hp])) q hq
 have bP:(rs.take i).reverse.length=i:=by simp;omega
 have key:∀ch:aa (Nat × Bool),(∀q,q∈ch->Ww rs (bF rs bef (gt D0l) s0 np px wl vl) wl q)->∀t,(if (jI i).contains t then TT.dead else Jv (gt D0l) ch (rs.take i).reverse t) = .dead \/
   ((if (jI i).contains t then TT.dead else Jv (gt D0l) ch (rs.take i).reverse t)=(bF rs bef (gt D0l) s0 np px wl vl).dL (bN.lt i) i t/\t∉jI i):=by
  intro ch NI t;by_cases hh:(jI i).contains t=true
  ·rw [if_pos hh];exact .inl rfl
  ·rw [if_neg hh];have:=ahu (D0:=gt D0l) (s0:=s0) (np:=np) (px:=px) (bef:=bef) (vl:=vl) (rs:=rs) (wl:=wl) (ch:=ch) (L:=bN.lt i) (pre:=(rs.take i).reverse) (post:=rs.drop i) (by simp) (fun j hj=>by rw [bP] at hj;simp [bN.lt,hj])
    (fun j o' _ oq hg=>Wx aV hW NI oq hg) t
   rw [bP] at this;rcases this with h1|h1
   ·exact .inl h1
   ·exact .inr ⟨h1,by simpa using hh⟩
 unfold DL at hc;simp only at hc;split at hc
 ·rename_i c xx yy d lU hd;split at hc;case h_2=>cases hc
  case h_1 X Y C1 C2 hX hY hC1 hC2=>
  split at hc;case isFalse=>cases hc
  case isTrue hdN=>
  cases hc;simp only at hb ⊢;refine key _ (fun q hq => ?_) t;split at hq
  ·rename_i j hj;split at hq
   ·rename_i oj FR;split at hq
    ·rename_i hgj;rcases a_.1 hq with rfl|hq
     ·obtain ⟨uK,oj',aCZ,hdj⟩:=ahw hj;rw [FR] at aCZ;cases aCZ;rw [bP] at uK;rw [rev_at (rs:=rs) (pre:=rs.take i) (post:=rs.drop i) (i:=i) (by simp) (by simp;omega) uK] at FR;have hwj:=Wx aV hW (fun q hq=>(NI q hq).2) FR hgj;obtain ⟨_,_,_,_,_,_,h7⟩:=oN aV hx;have hdo:A7 rs j=some c:=by unfold A7;rw [FR];exact hdj
      have hcj:c∈uj rs j:=by simp [uj,hdo]
      have hs:=asD (r:=bF rs bef (gt D0l) s0 np px wl vl) (L:=allT) (j:=j) (t:=c) (fun k hk hw=>h7 c rfl k j hk (by omega) (DN.1 hw) hcj) i uK (by simp only [bF];omega);refine ⟨hwj,c,hdo,?_⟩;unfold kT at hb ⊢;rw [<-hs];exact hb
     ·exact (NI q hq).2
    ·exact (NI q hq).2
   ·exact (NI q hq).2
  ·exact (NI q hq).2
 ·split at hc;case h_2=>cases hc
  case h_1 S hS=>
  cases hc;simp only at hb ⊢;exact key _ (fun q hq=>(NI q hq).2) t
end
end Go.Fw
namespace Go.Fw
section
variable {P:aS} {sigs:FuncId->ah aM} {N:Nat} {D0l:aa TT} {jI:Nat->aa Nat} {nA:aa Hint} {l:aa bQ} {rs:aa OpR} {bef:Nat->Nat->Bool} {s0:Nat->AV} {np:Nat->Bool} {px:Nat->aj} {wl:aa Bool} {vl:aa (aa AV)}
theorem av7 {l:aa (Nat × TT)} {t:Nat} (h:t∈l.map (·.1)):(t,aF (fun _=>.dead) l t)∈l:=by
 induction l with
 | nil=>simp at h
 | cons p l ih=>
  simp only [aF];by_cases hp:t=p.1
  ·rw [if_pos hp,hp];exact dX
  ·rw [if_neg hp];simp only [bz,a_] at h;exact dU _ (ih (h.resolve_left hp))
theorem ahx (y:AV) (b:Bool):(match (match y with | .v [.v (.bool c)] _=>some c|_=>none:ah Bool) with|some c=>c == b|none=>false)=(match y with | .v [.v (.bool c)] _=>c == b|_=>false):=by
 cases y with
 | p is=>rfl
 | n=>rfl
 | v as is=>
  cases as with
  | nil=>rfl
  | cons x as=>
   cases x with
   | s xs=>rfl
   | v z=>
    cases as with
    | cons=>cases z<;>rfl
    | nil=>cases z<;>rfl
theorem av8 (FV:nY P sigs N D0l jI nA 0 l []=some rs) (aV:vo np N D0l rs bef jI=true) (bU:∀j k,bef j k=true->j<k)
  (hW:∀(i:Nat) (o:OpR),rs[i]?=some o->wl.getD i false=nX rs wl ((bF rs bef (gt D0l) s0 np px wl vl).sL allT i) o)
  (hV:∀(i:Nat) (o:OpR),rs[i]?=some o->wl.getD i false=true->∃b,o.cb ((bF rs bef (gt D0l) s0 np px wl vl).sL allT i)=some b/\(o.S b).eff.rel P ((bF rs bef (gt D0l) s0 np px wl vl).sL allT i) (vl.getD i [])) :
  Sb P N l.toArray (acg rs (bF rs bef (gt D0l) s0 np px wl vl)) (bF rs bef (gt D0l) s0 np px wl vl):=by
 obtain ⟨bP,_,qC⟩:=adE FV rfl;simp only [dG] at bP qC
 -- the operation and what was found of it
 have at_op:∀i o,l.toArray[i]?=some o->∃x,rs[i]?=some x/\DL P sigs N D0l ((rs.take i).reverse) (jI i) (nA.getD i ⟨false,[],[]⟩) o=some x/\apl P N o x:=by
  intro i o ho;obtain ⟨x,h1,h2⟩:=qC i o (by simpa using ho);exact ⟨x,h1,h2,adF h2⟩
 have at_rs:∀i,i<rs.length->∃o x,l.toArray[i]?=some o/\rs[i]?=some x/\apl P N o x:=by
  intro i hi;have jB:i<l.length:=by omega
  have ho:l.toArray[i]?=some l[i]:=by simp [jB]
  obtain ⟨x,h1,_,h3⟩:=at_op i _ ho;exact ⟨_,x,ho,h1,h3⟩
 have gU:∀i x,rs[i]?=some x->acg rs (bF rs bef (gt D0l) s0 np px wl vl) i=x.S ((x.cb ((bF rs bef (gt D0l) s0 np px wl vl).sL allT i)).getD true):=fun i x hx=>by unfold acg;rw [hx]
 have nk:∀i x,rs[i]?=some x->rZ rs i=x.up:=fun i x hx=>by unfold rZ;rw [hx]
 have hd:∀i x,rs[i]?=some x->A7 rs i=x.d:=fun i x hx=>by unfold A7;rw [hx]
 refine ⟨by simp [bF,bP],fun i hi => ?_,fun i o ho => ?_,bU,fun i j t wI hj hb => ?_,fun i o j b ho hg => ?_,fun i o ho => ?_,fun i hi hw t ht => ?_,fun i hi hw d hdd t fE => ?_,fun i o ho hw => ?_,fun i hi hw => ?_,fun i hi d hdd => ?_⟩
 ·obtain ⟨o,x,_,hx,h1⟩:=at_rs i hi;obtain ⟨ks,hks⟩:=h1.up;refine ⟨ks,?_⟩;show rZ rs i=_;rw [gU i x hx,h1.sup,nk i x hx,hks]
 ·obtain ⟨x,hx,_,h1⟩:=at_op i o ho;show A7 rs i=_;rw [hd i x hx,h1.d]
 ·rw [DN,DN];rintro ⟨h1,h2⟩;obtain ⟨o,x,_,hx,_⟩:=at_rs i (by simp only [bF] at hj;omega);obtain ⟨k1,_⟩:=oN aV hx;have wH:bef j i=false:=by
   cases wH:bef j i with
   | false=>rfl
   | true=>have:=bU j i wH;omega
  exact (k1 j hj (by omega) hb wH t h2).2 h1
 ·obtain ⟨x,hx,_,h1⟩:=at_op i o ho;obtain ⟨_,_,_,_,k5,_,_⟩:=oN aV hx;obtain ⟨g1,g2,⟨t,ht,rM,Jg,hT⟩,_⟩:=k5 j b (by rw [h1.gd,hg]);have hi:=(bf hx).1;refine ⟨g1,t,ht,fun k hk hw=>rM k hk (DN.1 hw),fun hw => ?_⟩;have:=aAT (r:=bF rs bef (gt D0l) s0 np px wl vl) (L:=bN.lt i) (j:=j) (t:=t) (by simp only [bF];omega) (by simp [bN.lt,g2]) hw Jg (fun k hk wG=>rM k hk (DN.1 wG)) i g2 (by simp only [bF];omega);rw [this];exact hT
 ·obtain ⟨x,hx,_,h1⟩:=at_op i o ho;show wl.getD i false=_;rw [hW i x hx,apm (eY i)];unfold nX;rw [h1.gd];cases o.guard with
  | none=>rfl
  | some p=>
   obtain ⟨j,b⟩:=p;simp only;show (wl.getD j false&&_)=(wl.getD j false&&_)
   congr 1;show (match A7 rs j with|some t=>_|none=>_)=(match A7 rs j with|some t=>_|none=>_)
   cases A7 rs j with
   | none=>rfl
   | some t=>
    simp only;unfold kT;exact ahx _ b
 ·obtain ⟨o,x,_,hx,h1⟩:=at_rs i hi;obtain ⟨_,k2,k3,_⟩:=oN aV hx;have nH:t∉x.up.map (·.1):=by rw [<-nk i x hx];exact ht
  have NJ:(acg rs (bF rs bef (gt D0l) s0 np px wl vl) i).kl=(x.S true).kl:=by rw [gU i x hx,h1.kl]
  rw [NJ];refine ⟨?_,fun j hj iA hb T hT=>k2 j hj iA hb t T hT nH⟩;show (x.S true).kl (gt D0l t)=gt D0l t;cases hD:D0l[t]? with
  | none=>rw [amK hD];exact h1.kd
  | some T=>
   rw [amL hD];by_cases Hy:T = .dead
   ·rw [Hy];exact h1.kd
   ·exact k3 t T hD Hy nH
 ·obtain ⟨o,x,ho,hx,h1⟩:=at_rs i hi;obtain ⟨_,_,_,_,k5,_,_⟩:=oN aV hx;have BG:∃p,x.gd=some p:=by
   cases hg:x.gd with
   | some p=>exact ⟨p,rfl⟩
   | none=>
    exfalso;have:=hW i x hx;unfold nX at this;rw [hg] at this;simp only at this;have wG:wl.getD i false=false:=hw;rw [this] at wG;cases wG
  obtain ⟨⟨j,b⟩,hg⟩:=BG;obtain ⟨_,_,_,k6⟩:=k5 j b hg;have V6:x.d=some d:=by rw [<-hd i x hx];exact hdd
  obtain ⟨k7,k8⟩:=k6 d V6;refine ⟨?_,fun j hj iA hb T hT=>k8 j hj iA hb t T hT fE⟩;show (gt D0l t).kill [d] []=gt D0l t;cases hD:D0l[t]? with
  | none=>rw [amK hD];rfl
  | some T=>rw [amL hD];exact k7 t T hD fE
 ·obtain ⟨x,hx,hc,h1⟩:=at_op i o ho;obtain ⟨b,hb,kv⟩:=hV i x hx hw;obtain ⟨k1,_,_,_,_,k6,_⟩:=oN aV hx;have axg:acg rs (bF rs bef (gt D0l) s0 np px wl vl) i=x.S b:=by rw [gU i x hx,hb];rfl
  rw [axg];refine ⟨x.g b,h1.ok b,fun t => ?_,fun t ht hz => ?_⟩
  ·rcases aFE aV hW hx hc hw hb t with h|⟨h2,h3⟩
   ·exact .inl h
   ·refine .inr ⟨h2,fun j hj hwd => ?_⟩;rw [DN] at hwd;by_cases iA:j=i
    ·exact .inr (.inr iA)
    ·cases V3:bef i j with
     | true=>exact .inr (.inl V3)
     | false=>
      cases wH:bef j i with
      | true=>exact .inl wH
      | false=>exact absurd (k1 j hj iA V3 wH t hwd).1 h3
  ·-- what jH no value: the tail of what is put
   have hv:=h1.vl b _ _ kv;have h6:=k6 b;have Rw:t∉(((x.S b).up.map (·.1)).zip (vl.getD i [])).map (·.1):=hz;generalize (x.S b).up=up at ht Rw h6 ⊢;cases up with
   | nil=>simp at ht
   | cons p rest=>
    cases Ck:vl.getD i [] with
    | nil=>rw [Ck] at hv;simp at hv
    | cons v0 vs=>
     rw [Ck] at Rw;simp only [bz,Kt,a_,not_or] at Rw;have htp:=Rw.1;simp only [bz,a_] at ht;have Jg:=av7 (ht.resolve_left htp);have:=h6 _ (by simpa using Jg);simp only [aF,if_neg htp];exact this
 ·obtain ⟨o,x,_,hx,h1⟩:=at_rs i hi;obtain ⟨b,hb,kv⟩:=hV i x hx hw;have axg:acg rs (bF rs bef (gt D0l) s0 np px wl vl) i=x.S b:=by rw [gU i x hx,hb];rfl
  rw [axg,apm (eY i)];exact ⟨kv,(h1.vl b _ _ kv).1⟩
 ·obtain ⟨o,x,_,hx,h1⟩:=at_rs i hi;obtain ⟨_,_,_,k4,_⟩:=oN aV hx;exact k4 d (by rw [<-hd i x hx];exact hdd)
end
end Go.Fw
namespace Go.Fw
structure RD (np:Nat->Bool) (px:Nat->Value) (ac:Nat->Nat->Value) (κ0:aP) (w0:World) (N:Nat) (D:Nat->TT) (s:Nat->AV) (a:Act) (w:World):Prop where
 st:∃κ tg sv,R ac κ0 w0 κ w N tg sv (gm a)/\Le D s tg sv
 size:a.tmps.size=N
 defers:a.defers=[]
 par:∀i,np i=true->gm a i=px i
theorem Le.trans {D D':Nat->TT} {s s':Nat->AV} {tg:Nat->TT} {sv:Nat->AV} (h:Le D s tg sv) (h':∀t,D' t = .dead\/(D' t=D t/\s' t=s t)):Le D' s' tg sv:=by
 intro t;rcases h' t with h1|⟨h1,h2⟩
 ·exact .inl h1
 ·rcases h t with h3|⟨h3,h4⟩
  ·left;rw [h1,h3]
  ·right;exact ⟨by rw [h1,h3],by rw [h2,h4]⟩
theorem RD.weak {np:Nat->Bool} {px:Nat->aj} {ac:Nat->Nat->aj} {κ0:aP} {w0:aB} {N:Nat} {D D':Nat->TT} {s s':Nat->AV} {a:Act} {w:aB} (h:RD np px ac κ0 w0 N D s a w) (h':∀t,D' t = .dead\/(D' t=D t/\s' t=s t)):RD np px ac κ0 w0 N D' s' a w:=by
 obtain ⟨κ,tg,sv,hR,hL⟩:=h.st;exact ⟨⟨κ,tg,sv,hR,hL.trans h'⟩,h.size,h.defers,h.par⟩
def DR (N:Nat) (D0l:aa TT) (rs:aa OpR):aa TT:=(List.range N).map fun t=>Jv (gt D0l) [] rs.reverse t
theorem azz {N:Nat} {D0l:aa TT} {rs:aa OpR} (t:Nat):gt (DR N D0l rs) t = .dead\/gt (DR N D0l rs) t=Jv (gt D0l) [] rs.reverse t:=by
 unfold gt DR;rw [dw,kM];by_cases h:t<N
 ·rw [RN h];exact .inr rfl
 ·rw [Aa (by simp;omega)];exact .inl rfl
section
variable {P:aS} {sigs:FuncId->ah aM} {N:Nat} {D0l:aa TT} {jI:Nat->aa Nat} {nA:aa Hint} {l:aa bQ} {rs:aa OpR} {bef:Nat->Nat->Bool} {s0:Nat->AV} {np:Nat->Bool} {px:Nat->aj} {K:(Nat->AV)->Prop}
variable {ac:Nat->Nat->aj} {κ0:aP} {w0:aB} {a:Act} {w:aB} {Q:Exit->Act->aB->Prop} {id:Nat}
theorem Tk (FV:nY P sigs N D0l jI nA 0 l []=some rs) (aV:vo np N D0l rs bef jI=true) (bU:∀j k,bef j k=true->j<k) (hWo:wZ P rs rs [] s0 K)
  (hQ:∀s a w,K s->RD np px ac κ0 w0 N (gt (DR N D0l rs)) s a w->Q .normal a w) :
  ∃St r,Sb P N l.toArray St r/\r.bef=bef/\r.n=l.length/\(∀a w,RD np px ac κ0 w0 N (gt D0l) s0 a w->RInv ac κ0 w0 N r (fun _=>false) a w)/\∀a w,RInv ac κ0 w0 N r (bN.lt r.n) a w->Q .normal a w:=by
 have BG:∀(i:Nat) (o:OpR) (j:Nat) (b:Bool),rs[i]?=some o->o.gd=some (j,b)->j<i:=fun i o j b ho hg=>by
  obtain ⟨_,_,_,_,h5,_,_⟩:=oN aV ho;exact (h5 j b hg).2.1
 obtain ⟨wl,vl,_,k2,k3⟩:=amF (bef:=bef) (D0:=gt D0l) (s0:=s0) (np:=np) (px:=px) (wl:=[]) (vl:=[]) (pre:=[]) (os:=rs) BG rfl rfl rfl hWo;have hW:∀(i:Nat) (o:OpR),rs[i]?=some o->wl.getD i false=nX rs wl ((bF rs bef (gt D0l) s0 np px wl vl).sL allT i) o:=fun i o ho=>(k3 i o (by simp) ho).1
 have hV:=fun (i:Nat) (o:OpR) (ho:rs[i]?=some o)=>(k3 i o (by simp) ho).2
 have aC0:=av8 FV aV bU hW hV;refine ⟨_,_,aC0,rfl,by rw [aC0.n];simp,fun a w h => ?_,fun a w h => ?_⟩
 ·obtain ⟨κ,tg,sv,hR,hL⟩:=h.st;refine ⟨⟨κ,tg,sv,hR,?_⟩,h.size,h.defers,h.par,fun j t _ hf=>by cases hf⟩;rw [bN.dL_none _ fun _ _=>rfl,bN.sL_none _ fun _ _=>rfl];exact hL
 ·obtain ⟨κ,tg,sv,hR,hL⟩:=h.st;refine hQ _ a w k2 ⟨⟨κ,tg,sv,hR,hL.trans fun t => ?_⟩,h.size,h.defers,h.par⟩;rcases azz (N:=N) (D0l:=D0l) (rs:=rs) t with h1|h1
  ·exact .inl h1
  ·have:=ahu (D0:=gt D0l) (s0:=s0) (np:=np) (px:=px) (bef:=bef) (vl:=vl) (rs:=rs) (wl:=wl) (ch:=[]) (L:=bN.lt rs.length) (pre:=rs.reverse) (post:=[]) (by simp) (fun j hj=>by simp at hj;simp [bN.lt,hj])
    (fun j o' _ oq hg=>Wx aV hW (ch:=[]) (fun q hq=>by simp at hq) oq hg) t
   rw [List.length_reverse] at this;rcases this with h2|h2
   ·left;rw [h1,h2]
   ·right;refine ⟨by rw [h1,h2];rfl,?_⟩;rw [apm (eY _)];rfl
theorem ak5 (FV:nY P sigs N D0l (fun _=>[]) nA 0 l []=some rs) (aV:vo np N D0l rs (fun j i=>decide (j<i)) (fun _=>[])=true) (hWo:wZ P rs rs [] s0 K)
  (hQ:∀s a w,K s->RD np px ac κ0 w0 N (gt (DR N D0l rs)) s a w->Q .normal a w) (h:RD np px ac κ0 w0 N (gt D0l) s0 a w):(Code.region id l.toArray false).wp P Q a w:=by
 obtain ⟨St,r,hr,_,hn,axh,akI⟩:=Tk FV aV (fun j k h=>by simpa using h) hWo hQ;refine wp_region ?_;have:=ahd hr akI r.n 0 a w (by omega) ((axh a w h).congr fun j _=>by simp [bN.lt]);rw [<-List.range_eq_range'] at this;simpa [hn] using this
def zm (befs:aa Nat) (j i:Nat):Bool:=decide (j<i)&&(befs.getD i 0).testBit j
def egB (l:aa bQ) (i:Nat):Bool:=
 match l[i]? with
 | some o=>agv o&&o.guard.isNone&&l.zipIdx.all fun p=>(p.2 == i) || (p.1.after.toList.any fun e=>Region.binds .any e&&(e.on == i)) || (o.after.toList.any fun e=>Region.binds .any e&&(e.on == p.2)) || o.apart l.toArray p.1
 | none=>false
def egF (l:aa bQ):aa Nat->Nat->Nat
 | [],s=>s
 | j::r,s=>egF l r (if egB l j then s ||| 2 ^ j else s)
def egM (l:aa bQ):Nat:=egF l (List.range l.length) 0
theorem amM {l:aa bQ} {j:Nat}:∀{r:aa Nat} {s:Nat},(egF l r s).testBit j=true->s.testBit j=true\/egB l j=true
 | [],_,h=>.inl h
 | k::r,s,h=>by
  unfold egF at h;rcases amM h with h1|h1
  ·split at h1
   ·rename_i hk;rw [Nat.testBit_or,Nat.testBit_two_pow,iE] at h1;rcases h1 with h1|h1
    ·exact .inl h1
    ·have:k=j:=by simpa using h1
     subst this;exact .inr hk
   ·exact .inl h1
  ·exact .inr h1
theorem azA {l:aa bQ} {j:Nat} (h:(egM l).testBit j=true):egB l j=true:=by
 rcases amM h with h|h
 ·simp at h
 ·exact h
def oO {α:Type} (n:Nat) (f:Nat->α):α:=match n with
 | 0=>f 0
 | k+1=>f (k+1)
theorem Om {α:Type} (n:Nat) (f:Nat->α):oO n f=f n:=by cases n<;>rfl
def egP (l:aa bQ) (m:Nat) (befs:aa Nat) (j i:Nat):Bool:=
 m.testBit j&&decide (j<i)&&match l[j]?,l[i]? with
  | some oj,some oi=>oj.after.toList.all fun e=>!Region.binds .any e || oi.after.toList.any fun e'=>Region.binds .any e'&&((e'.on == e.on) || zm befs e.on e'.on)
  | _,_=>false
def okD (l:aa bQ) (befs:aa Nat):Bool:=oO (egM l) fun m=>
 Region.noSelect l.toArray&&l.zipIdx.all fun p=>(p.1.after.toList.all fun e=>!Region.binds .any e || decide (e.on<p.2)) &&
  ((List.range p.2).all fun j=>!zm befs j p.2 || (p.1.after.toList.any fun e=>Region.binds .any e&&((e.on == j) || zm befs j e.on)) || egP l m befs j p.2)
theorem Yx {befs:aa Nat} (hD:okD l befs=true) (FV:nY P sigs N D0l jI nA 0 l []=some rs) (aV:vo np N D0l rs (zm befs) jI=true) (hWo:wZ P rs rs [] s0 K)
  (hQ:∀s a w,K s->RD np px ac κ0 w0 N (gt (DR N D0l rs)) s a w->Q .normal a w) (h:RD np px ac κ0 w0 N (gt D0l) s0 a w):wpAny P .any l.toArray (fun e a w=>e = .normal/\Q .normal a w) l.toArray.size (Array.replicate l.toArray.size false) a { w with drawn:=w.drawn+1 }:=by
 have bU:∀j k,zm befs j k=true->j<k:=fun j k h=>by simp [zm] at h;exact h.1
 obtain ⟨St,r,hr,aGn,hn,axh,akI⟩:=Tk FV aV bU hWo hQ;simp only [okD,Om,aU] at hD;obtain ⟨XN,hD⟩:=hD;have qC:∀i o,l.toArray[i]?=some o->(∀e,e∈o.after->Region.binds .any e=true->e.on<i)/\∀j,zm befs j i=true->(∃e,e∈o.after/\Region.binds .any e=true/\(e.on=j\/zm befs j e.on=true))\/egP l (egM l) befs j i=true:=by
  intro i o ho;have hm:(o,i)∈l.zipIdx:=by rw [List.mem_zipIdx_iff_getElem?];simpa using ho
  have:=(bX.1 hD) (o,i) hm;simp only [aU] at this;refine ⟨fun e he hb => ?_,fun j hj => ?_⟩
  ·have h2:=(bX.1 this.1) e (by simpa using he);simpa [hb] using h2
  ·have h2:=(bX.1 this.2) j (jg.2 (bU j i hj));rw [hj] at h2;simp only [bC,wK,iE] at h2;rcases h2 with h2|h2
   ·simp only [nO,aU,iE,beq_iff_eq] at h2;obtain ⟨e,h3,h4,h5⟩:=h2;exact .inl ⟨e,by simpa using h3,h4,h5⟩
   ·exact .inr h2
 have jq:RD np px ac κ0 w0 N (gt D0l) s0 a { w with drawn:=w.drawn+1 }:=by
  obtain ⟨κ,tg,sv,hR,hL⟩:=h.st;exact ⟨⟨κ,tg,sv,aAI hR rfl rfl rfl rfl,hL⟩,h.size,h.defers,h.par⟩
 refine av1 hr (egB l) (fun i o j ho hb => ?_) (fun i o e ho he hb=>(qC i o ho).1 e he hb) (fun i o ho hg => ?_) (Region.noSelect_spec XN) (fun c a w h=>by cases h.1) (fun a w h=>⟨rfl,akI a w h⟩) _ _ a _ (by simp) (fun j k hb hl => ?_) ?_ ((axh a _ jq).congr fun j _ => ?_)
 ·rw [aGn] at hb ⊢;rcases (qC i o ho).2 j hb with h1|h1
  ·exact .inl h1
  ·right;simp only [egP,aU,decide_eq_true_eq] at h1;obtain ⟨⟨h3,h2⟩,h5⟩:=h1;refine ⟨h2,azA h3,fun oj FR e he hb => ?_⟩;have e1:l[j]?=some oj:=by simpa using FR
   have e2:l[i]?=some o:=by simpa using ho
   rw [e1,e2] at h5;simp only [bX] at h5;have:=h5 e (by simpa using he);rw [hb] at this;simp only [bC,wK,nO,aU,iE,beq_iff_eq] at this;obtain ⟨e',k1,k2,k3⟩:=this;exact ⟨e',by simpa using k1,k2,k3⟩
 ·have e2:l[i]?=some o:=by simpa using ho
  simp only [egB,e2,aU,bX] at hg;obtain ⟨⟨g1,g2⟩,g3⟩:=hg;refine ⟨g1,by simpa using g2,fun j oj FR aZ eF aGo => ?_⟩;have hm:(oj,j)∈l.zipIdx:=by rw [List.mem_zipIdx_iff_getElem?];simpa using FR
  have:=g3 (oj,j) hm;simp only [iE,beq_iff_eq,nO,aU] at this;rcases this with ((h1|⟨e,h1,h2,h3⟩)|⟨e,h1,h2,h3⟩)|h1
  ·exact absurd h1 aZ
  ·exact absurd h3 (eF e (by simpa using h1) h2)
  ·exact absurd h3 (aGo e (by simpa using h1) h2)
  ·exact h1
 ·simp [rP,agn] at hl;split at hl<;>simp at hl
 ·exact kz (qX _ _) (by simp)
 ·simp only [rP,agn];split<;>rfl
theorem ak6 {befs:aa Nat} (hm:P.follows .mixedOrders=true) (hD:okD l befs=true) (FV:nY P sigs N D0l jI nA 0 l []=some rs) (aV:vo np N D0l rs (zm befs) jI=true) (hWo:wZ P rs rs [] s0 K)
  (hQ:∀s a w,K s->RD np px ac κ0 w0 N (gt (DR N D0l rs)) s a w->Q .normal a w) (h:RD np px ac κ0 w0 N (gt D0l) s0 a w):(Code.region id l.toArray true).wp P Q a w:=
 Code.wp_mono (Q:=fun e a w=>e = .normal/\Q .normal a w) (fun e a w h=>by obtain ⟨rfl,h⟩:=h;exact h) (wp_region_any hm (Yx hD FV aV hWo hQ h))
end
end Go.Fw
namespace Go.Fw
def Wk (T T':TT):Prop:=T'=T\/(∃ag cs cs',T = .val ag cs/\T' = .val ag cs'/\CT.les cs cs'=true)\/∃cs cs',T = .box cs/\T' = .box cs'/\CT.les cs cs'=true
theorem asG:∀{cs cs':aa CT},CT.les cs cs'=true->∀{k:Nat} {c':CT},cs'[k]?=some c'->∃c,cs[k]?=some c/\c.le c'=true
 | [],[],_,k,c',h=>by simp at h
 | c::cs,e::cs',h,0,c',hk=>by
  simp only [CT.les,aU] at h;simp only [Co,aO] at hk;subst hk;exact ⟨c,rfl,h.1⟩
 | c::cs,e::cs',h,k+1,c',hk=>by
  simp only [CT.les,aU] at h;simp only [Kn] at hk ⊢;exact asG h.2 hk
 | [],_::_,h,_,_,_=>by simp [CT.les] at h
 | _::_,[],h,_,_,_=>by simp [CT.les] at h
theorem amN {ac:Nat->Nat->aj} {cs cs':aa CT} {get:Nat->aj} (hl:CT.les cs cs'=true) (h:rT ac cs get):rT ac cs' get:=by
 intro k j c e hk;obtain ⟨c0,h1,h2⟩:=asG hl hk;cases c0 with
 | d=>simp [CT.le] at h2
 | sl m e0=>
  cases m with
  | own p=>
   simp only [CT.le,aU,iE,decide_eq_true_eq] at h2;rcases h2.1 with h3|h3
   ·cases h3
   ·subst h3;exact h k j c e0 h1
  | ro S=>simp [CT.le] at h2
  | dead=>simp [CT.le] at h2
section
variable {ac:Nat->Nat->aj} {κ0 κ:aP} {w0 w:aB} {N:Nat} {tg tg':Nat->TT} {sv:Nat->AV} {tm:Nat->aj}
theorem Wk.rg {T T':TT} (h:Wk T T') (w:aB) (x:aj):Go.Fw.rg w T' x=Go.Fw.rg w T x/\Go.Fw.rb T' x=Go.Fw.rb T x:=by
 rcases h with rfl|⟨ag,cs,cs',rfl,rfl,_⟩|⟨cs,cs',rfl,rfl,_⟩
 ·exact ⟨rfl,rfl⟩
 ·exact ⟨by funext k;simp [Go.Fw.rg],rfl⟩
 ·refine ⟨by funext k;cases x<;>first
   | rfl
   | (rename_i o;cases o<;>rfl),by cases x<;>first
   | rfl
   | (rename_i o;cases o<;>rfl)⟩
theorem aDF {t:Nat} {T:TT} (hw:∀t,Wk (tg t) (tg' t)) (h:TR ac κ w tg sv tm t T):TR ac κ w tg' sv tm t T:=by
 cases T with
 | dead=>trivial
 | val ag cs=>simpa only [TR] using h
 | box cs=>simpa only [TR] using h
 | tup ws cs=>simpa only [TR] using h
 | alias ag cs r sk off S=>
  simp only [TR] at h ⊢;rw [((hw r).rg w (tm r)).1,((hw r).rg w (tm r)).2];exact h
 | ptr r sk off S=>
  simp only [TR] at h ⊢;rw [((hw r).rg w (tm r)).1,((hw r).rg w (tm r)).2];exact h
theorem aAU (h:R ac κ0 w0 κ w N tg sv tm) (hw:∀t,Wk (tg t) (tg' t)):R ac κ0 w0 κ w N tg' sv tm:=by
 refine ⟨fun t => ?_,fun t ht => ?_,h.col,h.fr,h.fb,h.nle⟩
 ·have h1:=aDF hw (h.tr t);rcases hw t with h2|⟨ag,cs,cs',h2,h3,h4⟩|⟨cs,cs',h2,h3,h4⟩
  ·rw [h2];exact h1
  ·rw [h2] at h1;rw [h3];simp only [TR] at h1 ⊢;obtain ⟨as,vs,g1,g2,g3,g4,g5⟩:=h1;exact ⟨as,vs,g1,g2,by rw [g3,jS h4],amN h4 g4,wX h4 g5⟩
  ·rw [h2] at h1;rw [h3];simp only [TR] at h1 ⊢;obtain ⟨as,b,g1,g2,g3,g4,g5,g6,g7⟩:=h1;exact ⟨as,b,g1,g2,g3,g4,by rw [<-jS h4];exact g5,amN h4 g6,wX h4 g7⟩
 ·have h1:=h.out t ht;rcases hw t with h2|⟨ag,cs,cs',h2,_⟩|⟨cs,cs',h2,_⟩
  ·rw [h2,h1]
  ·rw [h1] at h2;cases h2
  ·rw [h1] at h2;cases h2
end
open Classical in
theorem RD.weak2 {np:Nat->Bool} {px:Nat->aj} {ac:Nat->Nat->aj} {κ0:aP} {w0:aB} {N:Nat} {D D':Nat->TT} {s:Nat->AV} {a:Act} {w:aB} (h:RD np px ac κ0 w0 N D s a w) (h':∀t,D' t = .dead\/Wk (D t) (D' t)):RD np px ac κ0 w0 N D' s a w:=by
 obtain ⟨⟨κ,tg,sv,hR,hL⟩,h2,h3,h4⟩:=h;have each:∀t,D' t≠.dead->D t=tg t/\s t=sv t/\Wk (tg t) (D' t):=by
  intro t ht;rcases h' t with h5|h5
  ·exact absurd h5 ht
  ·rcases hL t with h6|⟨h6,h7⟩
   ·exfalso;rw [h6] at h5;rcases h5 with h5|⟨_,_,_,h5,_⟩|⟨_,_,h5,_⟩
    ·exact ht h5
    ·cases h5
    ·cases h5
   ·exact ⟨h6,h7,by rw [<-h6];exact h5⟩
 refine ⟨⟨κ,fun t=>if D' t = .dead then tg t else D' t,sv,aAU hR fun t => ?_,fun t => ?_⟩,h2,h3,h4⟩
 ·by_cases ht:D' t = .dead
  ·simp only [if_pos ht];exact .inl rfl
  ·simp only [if_neg ht];exact (each t ht).2.2
 ·by_cases ht:D' t = .dead
  ·exact .inl ht
  ·exact .inr ⟨by simp only [if_neg ht],(each t ht).2.1⟩
end Go.Fw
namespace Go.Fw
def reO (σ:Nat->Nat) (o:bQ):bQ:={ o with after:=o.after.map fun e=>{ e with on:=σ e.on },guard:=o.guard.map fun p=>(σ p.1,p.2) }
def DT (l:aa bQ) (n:Nat) (ord σ:Nat->Nat):aa bQ:=(List.range n).map fun k=>reO σ (l.getD (ord k) default)
def okP (n:Nat) (ord σ:Nat->Nat):Bool:=(List.range n).all fun k=>decide (ord k<n)&&σ (ord k) == k&&decide (σ k<n)&&ord (σ k) == k
def aFF (l:aa bQ):aa Nat:=l.map fun o=>o.after.toList.foldl (fun s e=>if Region.binds .any e then s ||| 2 ^ e.on else s) 0
def asI (m acc:Nat):aa Nat->Nat->Nat->Nat
 | [],_,d=>d
 | a::r,i,d=>if m.testBit i && !acc.testBit i&&(a &&& acc == a) then i else asI m acc r (i+1) d
def asJ (acc:Nat):Nat->Nat->Nat
 | 0,i=>i
 | k+1,i=>if acc.testBit i then asJ acc k (i+1) else i
def aAV (ms:aa Nat) (n m:Nat):Nat->Nat->Nat->Nat->Nat->Nat × Nat
 | 0,_,_,c,d=>(c,d)
 | k+1,j,acc,c,d=>oO (asJ acc n 0) fun f=>oO (asI m acc ms 0 f) fun i=>oO (acc ||| 2 ^ i) fun acc=>oO (c ||| i*2 ^ (8*j)) fun c=>oO (d ||| j*2 ^ (8*i)) fun d=>aAV ms n m k (j+1) acc c d
def idG:Nat->Nat
 | 0=>0
 | k+1=>idG k ||| k*2 ^ (8*k)
def dig (c k:Nat):Nat:=(c >>> (8*k)) % 256
def sgm (n d j:Nat):Nat:=if j<n then dig d j else n
section
variable {P:aS} {l:aa bQ} {ord σ:Nat->Nat} (h:okP l.length ord σ=true) (hσ:∀j,¬j<l.length->σ j=l.length)
include h
theorem DU {k:Nat} (hk:k<l.length):ord k<l.length/\σ (ord k)=k/\σ k<l.length/\ord (σ k)=k:=by
 unfold okP at h;rw [bX] at h;have:=h k (jg.2 hk);simp only [aU,decide_eq_true_eq,beq_iff_eq] at this;exact ⟨this.1.1.1,this.1.1.2,this.1.2,this.2⟩
omit h in
theorem ach:(DT l l.length ord σ).length=l.length:=by unfold DT;rw [dY,sU]
theorem ahy {i:Nat} {o:bQ} (ho:l[i]?=some o):(DT l l.length ord σ)[σ i]?=some (reO σ o):=by
 have hi:=(bf ho).1;obtain ⟨_,_,h3,h4⟩:=DU h hi;unfold DT;rw [kM,RN h3,dA,h4,dw,ho];rfl
include hσ
theorem asM (tmps:Array aj) (j:Nat):yielded (DT l l.length ord σ).toArray tmps (σ j)=yielded l.toArray tmps j:=by
 unfold yielded;by_cases hj:j<l.length
 ·rw [sQ,sQ,ahy h (aT hj),aT hj];rfl
 ·rw [sQ,sQ,hσ j hj,Aa (by rw [ach];omega),Aa (by omega)]
theorem av9 {Q:Exit->Act->aB->Prop} {i:Nat} (hi:i<l.length) {K:Act->aB->Prop} {a:Act} {w:aB} (hw:wpOp P (DT l l.length ord σ).toArray Q (σ i) K a w):wpOp P l.toArray Q i K a w:=by
 have ho:=aT hi;generalize l[i]=o at ho;have oq:=ahy h ho;unfold wpOp at hw ⊢;rw [sQ] at hw ⊢;rw [oq] at hw;rw [ho];have hwt:Region.wanted (reO σ o) (yielded (DT l l.length ord σ).toArray a.tmps)=Region.wanted o (yielded l.toArray a.tmps):=by
  unfold Region.wanted reO;cases hg:o.guard with
  | none=>rfl
  | some p=>
   simp only [dA];rw [asM h hσ]
 simp only at hw ⊢;rw [hwt] at hw;exact hw
theorem av_ {Q:Exit->Act->aB->Prop}:∀(fuel:Nat) (listed listed':Array Bool) (a:Act) (w:aB),listed.size=l.length->listed'.size=l.length->(∀i,i<l.length->listed'.getD (σ i) false=listed.getD i false) ->
  wpAny P .any (DT l l.length ord σ).toArray Q fuel listed' a w->wpAny P .any l.toArray Q fuel listed a w:=by
 have getT:∀(L:Array Bool) (j:Nat),L.size=l.length->j<l.length->L.getD j true=L.getD j false:=by
  intro L j h1 h2;simp only [rP];rw [We (by omega)];rfl
 have rdy:∀(listed listed':Array Bool),listed.size=l.length->listed'.size=l.length->(∀i,i<l.length->listed'.getD (σ i) false=listed.getD i false)->∀i,i<l.length->(σ i∈Region.ready .any (DT l l.length ord σ).toArray listed'↔i∈Region.ready .any l.toArray listed):=by
  intro listed listed' hs ik hL i hi;have FU:∀j,listed'.getD (σ j) false=listed.getD j false:=by
   intro j;by_cases hj:j<l.length
   ·exact hL j hj
   ·rw [hσ j hj];simp only [rP];rw [agq (by omega),agq (by omega)]
  have ho:=aT hi;generalize l[i]=o at ho;have oq:=ahy h ho;rw [mem_ready,mem_ready,sQ,sQ,ho,oq,getT _ _ ik (DU h hi).2.2.1,getT _ _ hs hi,hL i hi];constructor
  ·rintro ⟨h1,o1,h2,h3⟩;cases h2;refine ⟨h1,o,rfl,fun e he hb => ?_⟩;have:=h3 { e with on:=σ e.on } (by
    unfold reO
    simp only
    rw [Array.mem_map]
    exact ⟨e,he,rfl⟩) hb
   rw [<-FU e.on];exact this
  ·rintro ⟨h1,o1,h2,h3⟩;cases h2;refine ⟨h1,_,rfl,fun e he hb => ?_⟩;unfold reO at he;simp only at he;rw [Array.mem_map] at he;obtain ⟨e0,he0,rfl⟩:=he;simp only;rw [FU];exact h3 e0 he0 hb
 have nil:∀(listed listed':Array Bool),listed.size=l.length->listed'.size=l.length->(∀i,i<l.length->listed'.getD (σ i) false=listed.getD i false)->Region.ready .any l.toArray listed=[]->Region.ready .any (DT l l.length ord σ).toArray listed'=[]:=by
  intro listed listed' hs ik hL hn;rw [List.eq_nil_iff_forall_not_mem];intro k hk;have NJ:k<l.length:=by
   obtain ⟨_,o,ho,_⟩:=mem_ready.1 hk;rw [sQ] at ho;have:=(bf ho).1;rwa [ach] at this
  obtain ⟨h1,h2,_,_⟩:=DU h NJ;rw [<-h2] at hk;have:=(rdy listed listed' hs ik hL _ h1).1 hk;rw [hn] at this;cases this
 intro fuel;induction fuel with
 | zero=>
  intro listed listed' a w hs ik hL hw;refine ⟨?_,hw.2⟩;rw [List.eq_nil_iff_forall_not_mem];intro i hi;have NQ:i<l.length:=by
   obtain ⟨_,o,ho,_⟩:=mem_ready.1 hi;rw [sQ] at ho;exact (bf ho).1
  have:=(rdy listed listed' hs ik hL i NQ).2 hi;rw [hw.1] at this;cases this
 | succ fuel ih=>
  intro listed listed' a w hs ik hL hw;refine ⟨fun hn=>hw.1 (nil listed listed' hs ik hL hn),fun i hi => ?_⟩;have NQ:i<l.length:=by
   obtain ⟨_,o,ho,_⟩:=mem_ready.1 hi;rw [sQ] at ho;exact (bf ho).1
  refine av9 h hσ NQ (wpOp_mono (fun a w hk=>ih _ _ a w (by simpa using hs) (by simpa using ik) (fun j hj => ?_) hk) (hw.2 _ ((rdy listed listed' hs ik hL i NQ).2 hi)));have e1:(listed'.setIfInBounds (σ i) true).getD (σ j) false=(decide (j=i) || listed'.getD (σ j) false):=by
   simp only [rP,abU];have jB:=(DU h NQ).2.2.1;by_cases iA:j=i
   ·subst iA;rw [if_pos rfl,if_pos (by omega)];simp
   ·have aZ:σ i≠σ j:=by
     intro he;have h1:=(DU h NQ).2.2.2;have h2:=(DU h hj).2.2.2;rw [he,h2] at h1;exact iA h1
    rw [if_neg aZ,aA iA,wK]
  have e2:(listed.setIfInBounds i true).getD j false=(decide (j=i) || listed.getD j false):=by
   simp only [rP,abU];by_cases iA:j=i
   ·subst iA;rw [if_pos rfl,if_pos (by omega)];simp
   ·rw [if_neg (fun h=>iA h.symm),aA iA,wK]
  rw [e1,e2,hL j hj]
end
section
variable {P:aS} {sigs:FuncId->ah aM} {N:Nat} {D0l:aa TT} {jI:Nat->aa Nat} {nA:aa Hint} {l:aa bQ} {rs:aa OpR} {s0:Nat->AV} {np:Nat->Bool} {px:Nat->aj} {K:(Nat->AV)->Prop}
variable {ac:Nat->Nat->aj} {κ0:aP} {w0:aB} {a:Act} {w:aB} {Q:Exit->Act->aB->Prop} {id:Nat}
theorem asN {befs:aa Nat} {ord σ:Nat->Nat} (hp:okP l.length ord σ=true) (hσ:∀j,¬j<l.length->σ j=l.length) (hm:P.follows .mixedOrders=true) (hD:okD (DT l l.length ord σ) befs=true) (FV:nY P sigs N D0l jI nA 0 (DT l l.length ord σ) []=some rs) (aV:vo np N D0l rs (zm befs) jI=true) (hWo:wZ P rs rs [] s0 K)
  (hQ:∀s a w,K s->RD np px ac κ0 w0 N (gt (DR N D0l rs)) s a w->Q .normal a w) (h:RD np px ac κ0 w0 N (gt D0l) s0 a w):(Code.region id l.toArray true).wp P Q a w:=by
 refine Code.wp_mono (Q:=fun e a w=>e = .normal/\Q .normal a w) (fun e a w h=>by obtain ⟨rfl,h⟩:=h;exact h) (wp_region_any hm ?_);have hs:(DT l l.length ord σ).toArray.size=l.toArray.size:=by simp [ach]
 have:=Yx hD FV aV hWo hQ h;rw [hs] at this;refine av_ hp hσ _ _ _ a _ (by simp) (by simp) (fun i hi => ?_) this;simp only [rP,agn];have:=(DU hp hi).2.2.1;rw [if_pos (by simpa using this),if_pos (by simpa using hi)]
end
theorem azB {n d j:Nat} (h:¬j<n):sgm n d j=n:=if_neg h
def apn (l:aa bQ):Nat × Nat:=oO (egM l) fun m=>aAV (aFF l) l.length m l.length 0 0 0 0
end Go.Fw
namespace Go.Fw
inductive CC where
 | skip
 | rg (rs:List OpR)
 | seq (a b:CC)
 | cond (X:DX) (a b:CC)
 | block (id:Nat) (b:CC)
 | loop (b:CC)
 | exit (id:Nat)
 | ret
inductive Ex where
 | normal
 | exit (id:Nat)
 | ret
def agx (N:(Nat->AV)->Prop) (Q:Ex->(Nat->AV)->Prop):Ex->(Nat->AV)->Prop
 | .normal,s=>N s
 | e,s=>Q e s
def Jy (id:Nat) (Q:Ex->(Nat->AV)->Prop):Ex->(Nat->AV)->Prop
 | .exit id',s=>if id'=id then Q .normal s else Q (.exit id') s
 | e,s=>Q e s
def rnd (F:(Nat->AV)->(Ex->(Nat->AV)->Prop)->Prop) (Q:Ex->(Nat->AV)->Prop):Nat->(Nat->AV)->Prop
 | 0,_=>False
 | n+1,s=>F s (agx (rnd F Q n) Q)
def W (P:aS):CC->(Nat->AV)->(Ex->(Nat->AV)->Prop)->Prop
 | .skip,s,Q=>Q .normal s
 | .rg rs,s,Q=>wZ P rs rs [] s (Q .normal)
 | .seq a b,s,Q=>W P a s (agx (fun s=>W P b s Q) Q)
 | .cond X a b,s,Q=>∃c,X.get s=some (.bool c)/\if c then W P a s Q else W P b s Q
 | .block id b,s,Q=>W P b s (Jy id Q)
 | .loop b,s,Q=>∃n,rnd (W P b) Q n s
 | .exit id,s,Q=>Q (.exit id) s
 | .ret,s,Q=>Q .ret s
structure Out where
 n:Option (List TT)
 ex:List (Nat × List TT)
 rt:List (List TT)
inductive HT where
 | nil
 | rg (h:List Hint)
 | two (a b:HT)
 | one (a:HT)
 | loop (dl:List Nat) (a:HT)
def jnT:TT->TT->TT
 | .val ag cs,.val ag' cs'=>if ag=ag'/\CT.les cs (CT.jns cs cs')=true/\CT.les cs' (CT.jns cs cs')=true then .val ag (CT.jns cs cs') else .dead
 | .box cs,.box cs'=>if CT.les cs (CT.jns cs cs')=true/\CT.les cs' (CT.jns cs cs')=true then .box (CT.jns cs cs') else .dead
 | _,_=>.dead
theorem aDG (a b:TT):jnT a b = .dead\/Wk a (jnT a b):=by
 unfold jnT;split
 ·split
  ·rename_i h;exact .inr (.inr (.inl ⟨_,_,_,rfl,rfl,h.2.1⟩))
  ·exact .inl rfl
 ·split
  ·rename_i h;exact .inr (.inr (.inr ⟨_,_,rfl,rfl,h.1⟩))
  ·exact .inl rfl
 ·exact .inl rfl
theorem aDH (a b:TT):jnT a b = .dead\/Wk b (jnT a b):=by
 unfold jnT;split
 ·split
  ·rename_i h;obtain ⟨rfl,_,h⟩:=h;exact .inr (.inr (.inl ⟨_,_,_,rfl,rfl,h⟩))
  ·exact .inl rfl
 ·split
  ·rename_i h;exact .inr (.inr (.inr ⟨_,_,rfl,rfl,h.2⟩))
  ·exact .inl rfl
 ·exact .inl rfl
def qZ:aa TT->aa TT->aa TT
 | a::l,b::m=>(if a.beq b then a else jnT a b)::qZ l m
 | _,_=>[]
def Si:ah (aa TT)->ah (aa TT)->ah (aa TT)
 | some a,some b=>some (qZ a b)
 | some a,none=>some a
 | none,x=>x
def leD:aa TT->aa TT->Bool
 | [],_=>true
 | a::l,b::m=>(a.isDead || a.beq b)&&leD l m
 | a::l,[]=>a.isDead&&leD l []
def leO (Dh:aa TT):ah (aa TT)->Bool
 | some D'=>leD Dh D'
 | none=>true
theorem amP:∀(l m:aa TT) (t:Nat),gt (qZ l m) t = .dead\/Wk (gt l t) (gt (qZ l m) t)
 | [],m,t=>by left;cases m<;>simp [qZ,gt]
 | a::l,[],t=>by left;simp [qZ,gt]
 | a::l,b::m,t=>by
  cases t with
  | zero=>
   simp only [qZ,gt,uM];split
   ·exact .inr (.inl rfl)
   ·exact aDG a b
  | succ t=>simpa [qZ,gt] using amP l m t
theorem amQ:∀(l m:aa TT) (t:Nat),gt (qZ l m) t = .dead\/Wk (gt m t) (gt (qZ l m) t)
 | [],m,t=>by left;cases m<;>simp [qZ,gt]
 | a::l,[],t=>by left;simp [qZ,gt]
 | a::l,b::m,t=>by
  cases t with
  | zero=>
   simp only [qZ,gt,uM];split
   ·rename_i h;exact .inr (.inl (TT.beq_eq h))
   ·exact aDH a b
  | succ t=>simpa [qZ,gt] using amQ l m t
theorem Yy:∀{l m:aa TT},leD l m=true->∀t,gt l t = .dead\/gt l t=gt m t
 | [],m,_,t=>by left;simp [gt]
 | a::l,b::m,h,t=>by
  simp only [leD,aU,iE] at h;cases t with
  | zero=>
   simp only [gt,uM];rcases h.1 with h|h
   ·exact .inl (F7 h)
   ·exact .inr (TT.beq_eq h)
  | succ t=>simpa [gt] using Yy h.2 t
 | a::l,[],h,t=>by
  simp only [leD,aU] at h;cases t with
  | zero=>simp only [gt,uM];exact .inl (F7 h.1)
  | succ t=>simpa [gt] using Yy h.2 t
def Yz (l:aa bQ):aa Nat:=oO (egM l) fun m=>
 (l.foldl (fun acc o=>acc++[
  let s:=o.after.toList.foldl (fun s e=>if Region.binds .any e then s ||| 2 ^ e.on ||| acc.getD e.on 0 else s) 0
  (List.range acc.length).foldl (fun s j=>if egP l m acc j acc.length then s ||| 2 ^ j else s) s]) [])
def aDI (l:aa bQ) (befs:aa Nat) (i:Nat):aa Nat:=
 l.zipIdx.flatMap fun p=>if p.2 == i || zm befs i p.2 || zm befs p.2 i then [] else p.1.dst.toList
def aAX (l:aa bQ) (befs:aa Nat) (hs:aa Hint) (i:Nat):aa Nat:=aDI l befs i++(hs.getD i ⟨false,[],[]⟩).hd
def asO (dl:aa Nat) (D:aa TT):aa TT:=D.zipIdx.map fun p=>if dl.contains p.2 then .dead else p.1
def Sj (P:aS) (sigs:FuncId->ah aM) (np:Nat->Bool) (N:Nat) (hs:aa Hint) (l:aa bQ) (D:aa TT):ah (CC × Out):=
 match nY P sigs N D (aAX l (Yz l) hs) hs 0 l [] with
 | some rs=>if P.follows .mixedOrders&&okD l (Yz l)&&vo np N D rs (zm (Yz l)) (aAX l (Yz l) hs) then some (.rg rs,⟨some (DR N D rs),[],[]⟩) else none
 | none=>none
def oP (P:aS) (sigs:FuncId->ah aM) (np:Nat->Bool) (N:Nat):HT->Code->aa TT->ah (CC × Out)
 | _,.skip,D=>some (.skip,⟨some D,[],[]⟩)
 | h,.region _ ops draw,D=>
  let hs:=match h with
   | .rg hs=>hs
   | _=>[]
  if draw then oO (apn ops.toList).1 fun c=>if c == idG ops.toList.length then Sj P sigs np N hs ops.toList D else oO (apn ops.toList).2 fun d=>
   if okP ops.toList.length (dig c) (sgm ops.toList.length d) then Sj P sigs np N hs (DT ops.toList ops.toList.length (dig c) (sgm ops.toList.length d)) D else none
  else match nY P sigs N D (fun _=>[]) hs 0 ops.toList [] with
   | some rs=>if vo np N D rs (fun j i=>decide (j<i)) (fun _=>[]) then some (.rg rs,⟨some (DR N D rs),[],[]⟩) else none
   | none=>none
 | .two ha hb,.seq a b,D=>match oP P sigs np N ha a D with
  | some (a',o)=>match o.n with
   | none=>some (.seq a' .skip,o)
   | some D'=>fTs D' fun D'=>match oP P sigs np N hb b D' with
    | some (b',o')=>some (.seq a' b',⟨o'.n,o.ex++o'.ex,o.rt++o'.rt⟩)
    | none=>none
  | none=>none
 | .two ha hb,.cond c a b,D=>match nW (gt D) c,oP P sigs np N ha a D,oP P sigs np N hb b D with
  | some X,some (a',o),some (b',o')=>some (.cond X a' b',⟨Si o.n o'.n,o.ex++o'.ex,o.rt++o'.rt⟩)
  | _,_,_=>none
 | .one h,.block id b,D=>match oP P sigs np N h b D with
  | some (b',o)=>some (.block id b',⟨(o.ex.filterMap fun p=>if p.1=id then some p.2 else none).foldl (fun x D=>Si x (some D)) o.n,o.ex.filter fun p=>p.1 != id,o.rt⟩)
  | none=>none
 | .loop dl h,.loop b,D=>fTs (asO dl D) fun Dh=>match oP P sigs np N h b Dh with
  | some (b',o)=>if leD Dh D&&leO Dh o.n then some (.loop b',⟨none,o.ex,o.rt⟩) else none
  | none=>none
 | _,.exit id,D=>some (.exit id,⟨none,[(id,D)],[]⟩)
 | _,.ret,D=>some (.ret,⟨none,[],[D]⟩)
 | _,_,_=>none
end Go.Fw
namespace Go.Fw
section
variable {P:aS} {sigs:FuncId->ah aM} {np:Nat->Bool} {N:Nat} {px:Nat->aj} {ac:Nat->Nat->aj} {κ0:aP} {w0:aB}
def axB (np:Nat->Bool) (px:Nat->aj) (ac:Nat->Nat->aj) (κ0:aP) (w0:aB) (N:Nat) (out:Out) (Q:Ex->(Nat->AV)->Prop):Exit->Act->aB->Prop
 | .normal,a,w=>∃s D,out.n=some D/\Q .normal s/\RD np px ac κ0 w0 N (gt D) s a w
 | .exit id,a,w=>∃s D,(id,D)∈out.ex/\Q (.exit id) s/\RD np px ac κ0 w0 N (gt D) s a w
 | .ret,a,w=>∃s D,D∈out.rt/\Q .ret s/\RD np px ac κ0 w0 N (gt D) s a w
 | _,_,_=>False
theorem RD.le {D D':aa TT} {s:Nat->AV} {a:Act} {w:aB} (h:RD np px ac κ0 w0 N (gt D) s a w) (h':∀t,gt D' t = .dead\/gt D' t=gt D t):RD np px ac κ0 w0 N (gt D') s a w:=
 h.weak fun t=>(h' t).imp id fun h=>⟨h,rfl⟩
theorem amR {x y:ah (aa TT)} {D:aa TT} (h:x=some D) {s:Nat->AV} {a:Act} {w:aB} (hR:RD np px ac κ0 w0 N (gt D) s a w):∃D',Si x y=some D'/\RD np px ac κ0 w0 N (gt D') s a w:=by
 subst h;cases y with
 | none=>exact ⟨D,rfl,hR⟩
 | some E=>exact ⟨_,rfl,hR.weak2 (amP D E)⟩
theorem amS {x y:ah (aa TT)} {D:aa TT} (h:y=some D) {s:Nat->AV} {a:Act} {w:aB} (hR:RD np px ac κ0 w0 N (gt D) s a w):∃D',Si x y=some D'/\RD np px ac κ0 w0 N (gt D') s a w:=by
 subst h;cases x with
 | none=>exact ⟨D,rfl,hR⟩
 | some E=>exact ⟨_,rfl,hR.weak2 (amQ E D)⟩
theorem ahB:∀{l:aa (aa TT)} {x:ah (aa TT)} {D:aa TT},x=some D->∀{s:Nat->AV} {a:Act} {w:aB},RD np px ac κ0 w0 N (gt D) s a w->∃D',l.foldl (fun x D=>Si x (some D)) x=some D'/\RD np px ac κ0 w0 N (gt D') s a w
 | [],x,D,h,s,a,w,hR=>⟨D,by simpa using h,hR⟩
 | E::l,x,D,h,s,a,w,hR=>by
  obtain ⟨D',h1,h2⟩:=amR (y:=some E) h hR;exact ahB (l:=l) h1 h2
theorem asP:∀{l:aa (aa TT)} {x:ah (aa TT)} {D:aa TT},D∈l->∀{s:Nat->AV} {a:Act} {w:aB},RD np px ac κ0 w0 N (gt D) s a w->∃D',l.foldl (fun x D=>Si x (some D)) x=some D'/\RD np px ac κ0 w0 N (gt D') s a w
 | [],x,D,h,_,_,_,_=>by simp at h
 | E::l,x,D,h,s,a,w,hR=>by
  rcases a_.1 h with rfl|h
  ·obtain ⟨D',h1,h2⟩:=amS (x:=x) rfl hR;exact ahB (l:=l) h1 h2
  ·exact asP (l:=l) h hR
theorem azC:∀{C:Code} {h:HT} {D:aa TT} {cc:CC} {out:Out},oP P sigs np N h C D=some (cc,out)->∀{s:Nat->AV} {a:Act} {w:aB} {Q:Ex->(Nat->AV)->Prop},RD np px ac κ0 w0 N (gt D) s a w->W P cc s Q ->
  C.wp P (axB np px ac κ0 w0 N out Q) a w:=by
 intro C;induction C with
 | skip=>
  intro h D cc out hc s a w Q hR hW;have je:oP P sigs np N h .skip D=some (.skip,⟨some D,[],[]⟩):=by cases h<;>rfl
  rw [je] at hc;cases hc;exact wp_skip ⟨s,D,rfl,hW,hR⟩
 | ret=>
  intro h D cc out hc s a w Q hR hW;have je:oP P sigs np N h .ret D=some (.ret,⟨none,[],[D]⟩):=by cases h<;>rfl
  rw [je] at hc;cases hc;exact wp_ret ⟨s,D,by simp,hW,hR⟩
 | exit id=>
  intro h D cc out hc s a w Q hR hW;have je:oP P sigs np N h (.exit id) D=some (.exit id,⟨none,[(id,D)],[]⟩):=by cases h<;>rfl
  rw [je] at hc;cases hc;exact wp_exit ⟨s,D,by simp,hW,hR⟩
 | region id ops draw=>
  intro h D cc out hc s a w Q hR hW;obtain ⟨ops⟩:=ops;have je:∃hs,(if draw then oO (apn ops).1 fun c=>if c == idG ops.length then Sj P sigs np N hs ops D else oO (apn ops).2 fun d=>
   if okP ops.length (dig c) (sgm ops.length d) then Sj P sigs np N hs (DT ops ops.length (dig c) (sgm ops.length d)) D else none
  else match nY P sigs N D (fun _=>[]) hs 0 ops [] with
   | some rs=>if vo np N D rs (fun j i=>decide (j<i)) (fun _=>[]) then some (CC.rg rs,(⟨some (DR N D rs),[],[]⟩:Out)) else none
   | none=>none)=some (cc,out):=by
   cases h<;>exact ⟨_,hc⟩
  obtain ⟨hs,je⟩:=je;split at je
  ·rename_i hd;subst hd;rw [Om] at je;split at je
   ·unfold Sj at je;split at je;case h_2=>cases je
    case h_1 rs lG=>
    split at je;case isFalse=>cases je
    case isTrue aV=>
    cases je;simp only [aU] at aV;exact ak6 aV.1.1 aV.1.2 lG aV.2 hW (fun s a w hK hR=>⟨s,_,rfl,hK,hR⟩) hR
   ·rw [Om] at je;split at je;case isFalse=>cases je
    case isTrue hp=>
    unfold Sj at je;split at je;case h_2=>cases je
    case h_1 rs lG=>
    split at je;case isFalse=>cases je
    case isTrue aV=>
    cases je;simp only [aU] at aV;exact asN hp (fun j hj=>azB hj) aV.1.1 aV.1.2 lG aV.2 hW (fun s a w hK hR=>⟨s,_,rfl,hK,hR⟩) hR
  ·rename_i hd;have hd':draw=false:=by simpa using hd
   subst hd';split at je;case h_2=>cases je
   case h_1 rs lG=>
   split at je;case isFalse=>cases je
   case isTrue aV=>
   cases je;exact ak5 lG aV hW (fun s a w hK hR=>⟨s,_,rfl,hK,hR⟩) hR
 | seq x y ihx ihy=>
  intro h D cc out hc s a w Q hR hW;cases h with
  | two ha hb=>
   simp only [oP] at hc;split at hc;case h_2=>cases hc
   case h_1 a' o Ht=>
   split at hc
   ·rename_i hn;cases hc;simp only [W] at hW;refine wp_seq (wp_mono (ihx Ht hR hW) fun e a w hp => ?_);cases e with
    | normal=>obtain ⟨s,D,h1,_⟩:=hp;rw [hn] at h1;cases h1
    | exit id=>exact hp
    | ret=>exact hp
    | goto l=>exact hp
    | panic c=>exact hp
    | outgrown=>exact hp
   ·rename_i D' hn;rw [asC] at hc;split at hc;case h_2=>cases hc
    case h_1 b' o' cO=>
    cases hc;simp only [W] at hW;refine wp_seq (wp_mono (ihx Ht hR hW) fun e a w hp => ?_);cases e with
    | normal=>
     obtain ⟨s,D1,h1,h2,h3⟩:=hp;rw [hn] at h1;cases h1;refine wp_mono (ihy cO h3 h2) fun e a w hp => ?_
     cases e with
     | normal=>exact hp
     | exit id=>obtain ⟨s,D,h1,h2,h3⟩:=hp;exact ⟨s,D,bJ.2 (.inr h1),h2,h3⟩
     | ret=>obtain ⟨s,D,h1,h2,h3⟩:=hp;exact ⟨s,D,bJ.2 (.inr h1),h2,h3⟩
     | goto l=>exact hp
     | panic c=>exact hp
     | outgrown=>exact hp
    | exit id=>obtain ⟨s,D,h1,h2,h3⟩:=hp;exact ⟨s,D,bJ.2 (.inl h1),h2,h3⟩
    | ret=>obtain ⟨s,D,h1,h2,h3⟩:=hp;exact ⟨s,D,bJ.2 (.inl h1),h2,h3⟩
    | goto l=>exact hp
    | panic c=>exact hp
    | outgrown=>exact hp
  | _=>simp [oP] at hc
 | cond c x y ihx ihy=>
  intro h D cc out hc s a w Q hR hW;cases h with
  | two ha hb=>
   simp only [oP] at hc;split at hc;case h_2=>cases hc
   case h_1 X a' o b' o' hX Ht cO=>
   cases hc;simp only [W] at hW;obtain ⟨cv,hcv,hW⟩:=hW;obtain ⟨κ,tg,sv,hR0,hL⟩:=hR.st;obtain ⟨e1,_⟩:=u_ hR0 hL hX hcv;refine wp_cond e1 ?_;cases cv with
   | true=>
    simp only [if_true] at hW ⊢;refine wp_mono (ihx Ht hR hW) fun e a w hp => ?_
    cases e with
    | normal=>obtain ⟨s,D,h1,h2,h3⟩:=hp;obtain ⟨D',h4,h5⟩:=amR (y:=o'.n) h1 h3;exact ⟨s,D',h4,h2,h5⟩
    | exit id=>obtain ⟨s,D,h1,h2,h3⟩:=hp;exact ⟨s,D,bJ.2 (.inl h1),h2,h3⟩
    | ret=>obtain ⟨s,D,h1,h2,h3⟩:=hp;exact ⟨s,D,bJ.2 (.inl h1),h2,h3⟩
    | goto l=>exact hp
    | panic c=>exact hp
    | outgrown=>exact hp
   | false=>
    simp only [iP,if_false] at hW ⊢;refine wp_mono (ihy cO hR hW) fun e a w hp => ?_
    cases e with
    | normal=>obtain ⟨s,D,h1,h2,h3⟩:=hp;obtain ⟨D',h4,h5⟩:=amS (x:=o.n) h1 h3;exact ⟨s,D',h4,h2,h5⟩
    | exit id=>obtain ⟨s,D,h1,h2,h3⟩:=hp;exact ⟨s,D,bJ.2 (.inr h1),h2,h3⟩
    | ret=>obtain ⟨s,D,h1,h2,h3⟩:=hp;exact ⟨s,D,bJ.2 (.inr h1),h2,h3⟩
    | goto l=>exact hp
    | panic c=>exact hp
    | outgrown=>exact hp
  | _=>simp [oP] at hc
 | block id x ih=>
  intro h D cc out hc s a w Q hR hW;cases h with
  | one h=>
   simp only [oP] at hc;split at hc;case h_2=>cases hc
   case h_1 b' o cO=>
   cases hc;simp only [W] at hW;refine wp_block (wp_mono (ih cO hR hW) fun e a w hp => ?_);cases e with
   | normal=>
    obtain ⟨s,D,h1,h2,h3⟩:=hp;obtain ⟨D',h4,h5⟩:=ahB (l:=o.ex.filterMap fun p=>if p.1=id then some p.2 else none) h1 h3;exact ⟨s,D',h4,h2,h5⟩
   | exit id'=>
    obtain ⟨s,D,h1,h2,h3⟩:=hp;simp only [Jy] at h2;simp only [Exit.inBlock];by_cases jI:id'=id
    ·rw [if_pos jI] at h2 ⊢;obtain ⟨D',h4,h5⟩:=asP (l:=o.ex.filterMap fun p=>if p.1=id then some p.2 else none) (x:=o.n) (D:=D) (List.mem_filterMap.2 ⟨(id',D),h1,by simp [jI]⟩) h3;exact ⟨s,D',h4,h2,h5⟩
    ·rw [if_neg jI] at h2 ⊢;exact ⟨s,D,jQ.2 ⟨h1,by simpa using jI⟩,h2,h3⟩
   | ret=>exact hp
   | goto l=>exact hp
   | panic c=>exact hp
   | outgrown=>exact hp
  | _=>simp [oP] at hc
 | loop x ih=>
  intro h D cc out hc s a w Q hR hW;cases h with
  | loop dl h=>
   simp only [oP] at hc;rw [asC] at hc;split at hc;case h_2=>cases hc
   case h_1 b' o cO=>
   split at hc;case isFalse=>cases hc
   case isTrue df=>
   cases hc;simp only [aU] at df;simp only [W] at hW;obtain ⟨n,hW⟩:=hW;refine wp_loop_rounds n ?_;have key:∀n s a w,RD np px ac κ0 w0 N (gt (asO dl D)) s a w->rnd (W P b') Q n s->Code.rounds P x (axB np px ac κ0 w0 N ⟨none,o.ex,o.rt⟩ Q) n a w:=by
    intro n;induction n with
    | zero=>intro s a w _ h;exact h
    | succ n ihn=>
     intro s a w hR hr;rw [rounds_succ];refine wp_mono (ih cO hR hr) fun e a w hp => ?_
     cases e with
     | normal=>
      obtain ⟨s,D1,h1,h2,h3⟩:=hp;have h4:=df.2;rw [h1] at h4;exact ihn s a w (h3.le (Yy h4)) h2
     | exit id=>exact hp
     | ret=>exact hp
     | goto l=>exact hp
     | panic c=>exact hp
     | outgrown=>exact hp
   exact key n s a w (hR.le (Yy df.1)) hW
  | _=>simp [oP] at hc
 | _=>intro h D cc out hc;cases h<;>simp [oP] at hc
end
end Go.Fw
namespace Go.Fw
def aci (i k:Nat):CT->CT
 | .sl (.own _) e=>.sl (.own (some (i,k))) e
 | c=>c
def YA (i:Nat) (cs:aa CT):aa CT:=cs.mapIdx fun k c=>aci i k c
def Sl (i:Nat):PM->TT
 | .rd ag cs=>.val ag (CT.roizes [i] cs)
 | .tk ag cs=>.val ag cs
 | .mt ag cs=>.val ag (YA i cs)
 | .mp cs=>.box cs
def inD (sg:aM) (N:Nat):aa TT:=sg.ps.mapIdx Sl++List.replicate (N-sg.ps.length) .dead
def inS (args:aa (aa A)) (t:Nat):AV:=
 match args[t]? with
 | some as=>.v as []
 | none=>.n
def awc:PM->Bool
 | .rd _ _=>true
 | .tk _ cs=>gY cs
 | .mt _ cs=>gY cs
 | .mp cs=>gY cs
def ahD (sg:aM) (xs:aa aj) (i k:Nat):aj:=
 match sg.ps[i]?,xs[i]? with
 | some (.mt ag _),some x=>((cellsOf ag x).getD []).getD k undef
 | _,_=>undef
theorem apo (i k:Nat) (c:CT):(aci i k c).unpin=c.unpin:=by
 cases c with
 | d=>rfl
 | sl m e=>cases m<;>rfl
theorem ahE (i:Nat) (cs:aa CT):CT.unpins (YA i cs)=CT.unpins cs:=by
 have key:∀(cs:aa CT) (f:Nat->CT->CT),(∀k c,(f k c).unpin=c.unpin)->CT.unpins (cs.mapIdx f)=CT.unpins cs:=by
  intro cs;induction cs with
  | nil=>intro f _;rfl
  | cons c cs ih=>
   intro f hf;rw [List.mapIdx_cons];simp only [CT.unpins,hf];rw [ih (fun k=>f (k+1)) fun k c=>hf (k+1) c]
 exact key cs _ (apo i)
theorem ahF (i:Nat) (cs:aa CT):(YA i cs).length=cs.length:=by simp [YA]
theorem aAY {sg:aM} {N t:Nat} {pm:PM} (h:sg.ps[t]?=some pm):gt (inD sg N) t=Sl t pm:=by
 have hl:=(bf h).1;unfold gt inD;rw [dw,rQ (by simpa using hl),List.getElem?_mapIdx,h];rfl
theorem asQ {sg:aM} {N t:Nat} (h:sg.ps.length<=t):gt (inD sg N) t = .dead:=by
 unfold gt inD;rw [dw,uZ (by simpa using h),agp];split<;>rfl
theorem YB (S:aa Nat):∀{cs:aa CT} {k:Nat} {p:ah (Nat × Nat)} {e:aa CT},(CT.roizes S cs)[k]?≠some (.sl (.own p) e)
 | [],k,p,e=>by simp [CT.roizes]
 | c::cs,0,p,e=>by
  cases c<;>simp [CT.roizes,CT.roize]
 | c::cs,k+1,p,e=>by
  simp only [CT.roizes,Kn];exact YB S
section
variable {sg:aM} {κ:aP} {w:aB} {xs:aa aj} {args:aa (aa A)} {N:Nat}
theorem aAZ (ku:∀b,w.heap.size<=b->κ b=none) (NL:xs.length=sg.ps.length) (BA:args.length=sg.ps.length)
  (Hu:∀i pm x as,sg.ps[i]?=some pm->xs[i]?=some x->args[i]?=some as->pV κ w i x as pm) (hN:sg.ps.length<=N) (hNF:N<=FB) (kJ:sg.ps.all awc=true) :
  R (ahD sg xs) κ w κ w N (gt (inD sg N)) (inS args) (fun t=>xs.getD t undef):=by
 refine ⟨fun t => ?_,fun t ht=>asQ (by omega),ku,⟨eY _,fun b _ h=>⟨h,rfl⟩,rfl,rfl,rfl⟩,fun b q h=>⟨h,Same.refl w b⟩,hNF⟩;cases hp:sg.ps[t]? with
 | none=>rw [asQ (List.getElem?_eq_none_iff.1 hp)];simp [TR]
 | some pm=>
  have hl:=(bf hp).1;have hx:xs[t]?=some xs[t]:=by simp [NL,hl]
  have ha:args[t]?=some args[t]:=by simp [BA,hl]
  have hA:=Hu t pm _ _ hp hx ha;have jF:inS args t = .v args[t] []:=by unfold inS;rw [ha]
  have qp:xs.getD t undef=xs[t]:=by rw [dw,hx];rfl
  have hpk:awc pm=true:=(bX.1 kJ) pm (eZ hp);rw [aAY hp];cases pm with
  | rd ag cs=>
   obtain ⟨vs,h1,h2,h3⟩:=hA;simp only [Sl,TR,jF,qp];exact ⟨_,vs,rfl,h1,by rw [dx];exact h2,fun k j c e hc=>absurd hc (YB _),h3⟩
  | tk ag cs=>
   obtain ⟨vs,h1,h2,h3⟩:=hA;simp only [Sl,TR,jF,qp];exact ⟨_,vs,rfl,h1,h2,gu hpk,h3⟩
  | mt ag cs=>
   obtain ⟨vs,h1,h2,h3⟩:=hA;simp only [Sl,TR,jF,qp];refine ⟨_,vs,rfl,h1,by rw [ahF];exact h2,fun k j c e hc => ?_,?_⟩
   ·have hjc:j=t/\c=k:=by
     unfold YA at hc;rw [List.getElem?_mapIdx] at hc;cases Hz:cs[k]? with
     | none=>rw [Hz] at hc;simp at hc
     | some c0=>
      rw [Hz] at hc;simp only [dA,aO] at hc;cases c0 with
      | d=>simp [aci] at hc
      | sl m e0=>
       cases m with
       | own p=>simp only [aci,CT.sl.injEq,Md.own.injEq,aO,di] at hc;exact ⟨hc.1.1.symm,hc.1.2.symm⟩
       | ro S=>simp [aci] at hc
       | dead=>simp [aci] at hc
    obtain ⟨rfl,rfl⟩:=hjc;unfold ahD;rw [hp,hx];simp only [h1];rfl
   ·have:=f_.2 h3;rw [<-ahE t] at this;exact f_.1 this
  | mp cs=>
   obtain ⟨b,h1,h2,h3,h4,h5⟩:=hA;simp only [Sl,TR,jF,qp];exact ⟨_,b,rfl,h1,h2,h3,h4,gu hpk,h5⟩
end
end Go.Fw
namespace Go.Fw
structure Ent where
 r:Nat
 lo:Nat
 n:Nat
 d:Nat
 b:Nat
def Ent.hit (e:Ent) (r j:Nat):Bool:=(e.r == r)&&decide (e.lo<=j)&&decide (j<e.lo+e.n)
def qh (es:aa Ent) (zs:aa (Nat × Nat)):Pl->ah Pl
 | (r,j::q)=>(es.find? fun e=>e.hit r j).map fun e=>(e.d,(e.b+(j-e.lo))::q)
 | (r,[])=>(zs.find? fun p=>p.1 == r).map fun p=>(p.2,[])
def uy (κ0 κ:aP) (F:Pl->ah Pl):aP:=fun b=>
 match κ0 b with
 | some (r,q)=>if r=FB then some (FB,q) else (κ b).bind F
 | none=>(κ b).bind F
def KP (es:aa Ent) (t off n d base:Nat):Bool:=(List.range n).all fun k=>match es.find? (fun e=>e.hit t (off+k)) with
 | some e=>(e.d == d)&&(e.b+(off+k-e.lo) == base+k)
 | none=>false
def agy (sg:aM) (es:aa Ent) (zs:aa (Nat × Nat)) (cs:aa CT):Bool:=(CT.srcss cs).all fun r=>(match sg.ps[r]? with
 | some pm=>!pm.mut
 | none=>false)&&es.all (fun e=>e.r != r)&&zs.all (fun z=>z.1 != r)
section
variable {ac:Nat->Nat->aj} {κ0 κ:aP} {w0 w:aB} {N:Nat} {tg:Nat->TT} {sv:Nat->AV} {tm:Nat->aj} {es:aa Ent} {zs:aa (Nat × Nat)} {sg:aM}
theorem Oo (h:R ac κ0 w0 κ w N tg sv tm) {F:Pl->ah Pl} {b r:Nat} {q:aa Nat} (hk:κ b=some (r,q)) (hr:r≠FB):uy κ0 κ F b=F (r,q):=by
 unfold uy;split
 ·rename_i r0 q0 h0;split
  ·rename_i he;subst he;have:=(h.fb b q0 h0).1;rw [hk] at this;cases this;exact absurd rfl hr
  ·rw [hk];rfl
 ·rw [hk];rfl
theorem Oq {F:Pl->ah Pl} {b r:Nat} {q:aa Nat} (hk:uy κ0 κ F b=some (r,q)):(r=FB/\κ0 b=some (FB,q))\/∃r0 q0,κ b=some (r0,q0)/\F (r0,q0)=some (r,q):=by
 unfold uy at hk;have main:(κ b).bind F=some (r,q)->∃r0 q0,κ b=some (r0,q0)/\F (r0,q0)=some (r,q):=fun h=>by
  simp only [Cq] at h;obtain ⟨⟨r0,q0⟩,h1,h2⟩:=h;exact ⟨r0,q0,h1,h2⟩
 split at hk
 ·rename_i r0 q0 h0;split at hk
  ·rename_i he;subst he;cases hk;exact .inl ⟨rfl,h0⟩
  ·exact .inr (main hk)
 ·exact .inr (main hk)
theorem awd {cs:aa CT} (h:agy sg es zs cs=true) {r:Nat} (hr:r∈CT.srcss cs):(∃pm,sg.ps[r]?=some pm/\pm.mut=false)/\(∀e,e∈es->e.r≠r)/\∀z,z∈zs->z.1≠r:=by
 have:=(bX.1 h) r hr;simp only [aU,bX,bne_iff_ne] at this;refine ⟨?_,this.1.2,this.2⟩;have h1:=this.1.1;split at h1
 ·rename_i pm kJ;exact ⟨pm,kJ,by simpa using h1⟩
 ·cases h1
def GoodS (sg:aM) (es:aa Ent) (zs:aa (Nat × Nat)) (S:aa Nat):Prop:=∀r,r∈S->r<sg.ps.length/\(∀e,e∈es->e.r≠r)/\∀z,z∈zs->z.1≠r
theorem aA0 (h:R ac κ0 w0 κ w N tg sv tm) (hN:sg.ps.length<=N) {S:aa Nat} (hS:GoodS sg es zs S) {b:Nat} (hb:bn κ w S b):bn (uy κ0 κ (qh es zs)) w S b:=by
 refine ⟨hb.1,fun r p hk => ?_⟩;exfalso;rcases Oq hk with ⟨rfl,h0⟩|⟨r0,q0,h1,h2⟩
 ·have h1:=(h.fb b p h0).1;have h2:=(hS _ (hb.2 _ _ h1).1).1;have:=h.nle;omega
 ·have h3:=hS _ (hb.2 _ _ h1).1;cases q0 with
  | nil=>
   simp only [qh,dh] at h2;obtain ⟨z,hz,_⟩:=h2;have h4:=List.find?_some hz;exact h3.2.2 z (abV hz) (by simpa using h4)
  | cons j q=>
   simp only [qh,dh] at h2;obtain ⟨e,he,_⟩:=h2;have h4:=List.find?_some he;simp only [Ent.hit,aU,beq_iff_eq] at h4;exact h3.2.1 e (abV he) h4.1.1
theorem YC {cs:aa CT} (h:agy sg es zs cs=true):CT.allSs (GoodS sg es zs) cs:=by
 refine (Cw (P:=fun r=>r<sg.ps.length/\(∀e,e∈es->e.r≠r)/\∀z,z∈zs->z.1≠r)).2 fun r hr => ?_
 obtain ⟨⟨pm,h1,_⟩,h2,h3⟩:=awd h hr;exact ⟨(bf h1).1,h2,h3⟩
theorem amU (h:R ac κ0 w0 κ w N tg sv tm) (hN:sg.ps.length<=N) {t off d base:Nat} (ht:t≠FB) {cs:aa CT} {get get':Nat->aj} {as:aa A} (Ry:(CT.nowns cs || KP es t off cs.length d base)=true)
  (aC2:CT.allSs (GoodS sg es zs) cs) (hg:∀i,i<cs.length->get' (base+i)=get (off+i)) (hr:aC κ w cs (t,[]) off get as):aC (uy κ0 κ (qh es zs)) w cs (d,[]) base get' as:=by
 have bu:∀S,GoodS sg es zs S->∀b,bn κ w S b->bn (uy κ0 κ (qh es zs)) w S b/\Same w w b:=fun S hS b hb=>⟨aA0 h hN hS hb,Same.refl w b⟩
 cases hn:CT.nowns cs with
 | true=>exact jR bu hn aC2 hg hr
 | false=>
  rw [hn] at Ry;simp only [wK,KP,bX] at Ry;have:=fZ (f:=id) (p':=(d,[])) (κ':=uy κ0 κ (qh es zs)) (w':=w) (fun S hS b hb=>bu S hS b hb) aC2 (fun i hi b q hb => ?_) hg hr
  ·rwa [iR] at this
  ·refine ⟨?_,Same.refl w b⟩;simp only [gX] at hb ⊢;rw [Oo h hb ht];have h1:=Ry i (jg.2 hi);split at h1
   ·rename_i e he;simp only [aU,beq_iff_eq] at h1;simp only [qh,he,dA,h1.1,h1.2]
   ·cases h1
end
structure YD where
 reg:Nat
 t:Nat
 off:Nat
 ag:Bool
 cs:List CT
def rvX (P:aS) (D:aa TT):ResultVar->ah YD
 | .tmp t=>match gt D t with
  | .val ag cs=>some ⟨t,t,0,ag,cs⟩
  | .alias ag cs r [] off _=>match (gt D r).cts with
   | some crs=>if off+cs.length<=crs.length then some ⟨t,r,off,ag,(crs.drop off).take cs.length⟩ else none
   | none=>none
  | _=>none
 | .cell a ty=>match gt D a,wQ P ty,P.info? ty with
  | .box cs,some ag,some i=>if i.size=cs.length/\(ag=true\/i.size=1)/\CT.lives cs=true then some ⟨a,a,0,ag,cs⟩ else none
  | _,_,_=>none
def H_ (P:aS) (D:aa TT):aa ResultVar->ah (aa YD)
 | []=>some []
 | v::vs=>match rvX P D v,H_ P D vs with
  | some I,some Is=>some (I::Is)
  | _,_=>none
def Sm (s:Nat->AV):aa YD->ah (aa A)
 | []=>some []
 | I::Is=>match iK I.reg s,Sm s Is with
  | some as,some r=>some (as++r)
  | _,_=>none
def Sn (tmps:Array aj):ResultVar->Sem aj
 | .tmp t=>pure (tmps.getD t undef)
 | .cell a t=>do loadVar t (<-asAddr (tmps.getD a undef))
theorem asR {α β:Type} {P:aS} {f:α->Sem β} {w:aB} {as:Array α} {bs:aa β} (h:∀(i:Nat) a,as.toList[i]?=some a->∃b:β,bs[i]?=some b/\(f a).run P w = .ok b w) (hl:bs.length=as.toList.length):(as.mapM f).run P w = .ok bs.toArray w:=by
 rw [@Array.mapM_eq_foldlM Sem α β _ adc f as,<-Array.foldlM_toList];have key:∀(l:aa α) (bs:aa β) (acc:Array β),bs.length=l.length->(∀(i:Nat) a,l[i]?=some a->∃b:β,bs[i]?=some b/\(f a).run P w = .ok b w)->(l.foldlM (fun bs a=>bs.push <$> f a) acc:Sem (Array β)).run P w = .ok (acc++bs.toArray) w:=by
  intro l;induction l with
  | nil=>intro bs acc hb _;cases bs with
   | nil=>simp [List.foldlM,run_pure]
   | cons=>simp at hb
  | cons a l ih=>
   intro bs acc hb hl;cases bs with
   | nil=>simp at hb
   | cons b bs=>
    simp only [List.foldlM_cons];obtain ⟨b',h1,h2⟩:=hl 0 a rfl;simp at h1;subst h1;have:(acc.push <$> f a:Sem (Array β)).run P w = .ok (acc.push b) w:=by
     show ((f a) >>= fun b=>pure (acc.push b)).run P w=_;rw [aJ h2];rfl
    rw [aJ this,ih bs _ (by simpa using hb) fun i a hi=>by
     obtain ⟨b,h3,h4⟩:=hl (i+1) a (by simpa using hi)
     exact ⟨b,by simpa using h3,h4⟩]
    congr 1;apply Array.ext';simp
 rw [key as.toList bs #[] hl h];congr 1;apply Array.ext';simp
theorem ak7 {P:aS} {t:TypeId} {i:TypeInfo} {g:Bool} {b o:Nat} {w:aB} (hi:P.info? t=some i) (hg:wQ P t=some g) (h1:g=false->i.size=1)
  (h:Rdb w b o (o+i.size)):∃v,(loadVar t ⟨b,o,none⟩).run P w = .ok v w/\(g=true->v = .agg ((List.range i.size).map fun k=>cellD w b (o+k)).toArray)/\(g=false->v=cellD w b o):=by
 obtain ⟨v,hv,h2,h3⟩:=X8 hi hg h1 h;refine ⟨v,?_,h2,h3⟩;unfold Instr.loadAt at hv;have hs:(Instr.sureAddr (.pointer (some ⟨b,o,none⟩))).run P w = .ok ⟨b,o,none⟩ w:=rfl;rw [aJ hs] at hv;exact hv
section
variable {P:aS} {ac:Nat->Nat->aj} {κ0 κ:aP} {w0 w:aB} {N:Nat} {tg:Nat->TT} {sv s:Nat->AV} {a:Act} {D:aa TT}
theorem aDJ (h:R ac κ0 w0 κ w N tg sv (gm a)) (hL:Le (gt D) s tg sv) {rv:ResultVar} {I:YD} (hI:rvX P D rv=some I) {as:aa A} (hs:iK I.reg s=some as) :
  ∃x vs get,(Sn a.tmps rv).run P w = .ok x w/\cellsOf I.ag x=some vs/\vs.length=I.cs.length/\I.t<N/\(∀k,k<I.cs.length->get (I.off+k)=vs.getD k undef)/\aC κ w I.cs (I.t,[]) I.off get as:=by
 have lt:∀t,tg t≠.dead->t<N:=fun t ht=>by
  apply sW;intro df;exact ht (h.out t df)
 obtain ⟨is,hs⟩:=cK hs;cases rv with
 | tmp t=>
  simp only [rvX] at hI;split at hI
  ·rename_i ag cs hT;cases hI;obtain ⟨e1,e2⟩:=hL.at hT (by simp);have h1:=h.tr t;rw [e1] at h1;simp only [TR] at h1;obtain ⟨as',vs,g1,g2,g3,_,g5⟩:=h1;rw [e2,hs] at g1;cases g1;exact ⟨gm a t,vs,_,rfl,g2,g3,lt t (by rw [e1];simp),fun k _=>by simp,g5⟩
  ·rename_i ag cs r off S hT;split at hI;case h_2=>cases hI
   case h_1 crs qy=>
   split at hI;case isFalse=>cases hI
   case isTrue yB=>
   cases hI;obtain ⟨e1,e2⟩:=hL.at hT (by simp);obtain ⟨axi,_⟩:=AQ hL qy;have h1:=h.tr t;rw [e1] at h1;simp only [TR] at h1;obtain ⟨as',is',vs,g,ra,row,g1,g2,g3,_,g5,g6,_,_,_,g9,g10,g11,g12⟩:=h1;rw [e2,hs] at g1;cases g1;have fe:=h.root axi g10;cases is with
   | cons=>simp [fJ] at g6
   | nil=>
   simp only [fJ,aO] at g6;subst g6;simp only [b_,aO] at g11;subst g11;have cZ:=mR cs.length (mQ off fe);rw [dG] at cZ;refine ⟨gm a t,vs,_,rfl,g2,by simp;omega,lt r (fun hd=>by rw [hd] at axi;simp [TT.cts] at axi),fun k hk => ?_,by rw [g12];exact cZ⟩;simp only [iD,sZ] at hk;exact (g9 k (by omega)).1
  ·cases hI
 | cell t ty=>
  simp only [rvX] at hI;split at hI;case h_2=>cases hI
  case h_1 cs ag i hT NK hi=>
  split at hI;case isFalse=>cases hI
  case isTrue hc=>
  cases hI;obtain ⟨dH,arD,lV⟩:=hc;obtain ⟨e1,e2⟩:=hL.at hT (by simp);have h1:=h.tr t;rw [e1] at h1;simp only [TR] at h1;obtain ⟨as',b,g1,g2,g3,g4,g5,_,g7⟩:=h1;rw [e2,hs] at g1;cases g1;obtain ⟨v,hv,k1,k0⟩:=ak7 (P:=P) (w:=w) (b:=b) (o:=0) hi NK (fun hf=>by rcases arD with h1|h1<;>simp_all) (by rw [dH,dG];exact g5.rdb);have eQ:(Sn a.tmps (.cell t ty)).run P w = .ok v w:=by
   have:a.tmps.getD t undef = .pointer (some ⟨b,0,none⟩):=g2;show (do loadVar ty (<-asAddr (a.tmps.getD t undef)):Sem aj).run P w=_;rw [this];have hs:(asAddr (.pointer (some ⟨b,0,none⟩))).run P w = .ok ⟨b,0,none⟩ w:=rfl;rw [aJ hs];exact hv
  cases ag with
  | true=>
   refine ⟨v,(List.range i.size).map fun k=>cellD w b k,_,eQ,?_,by simpa using dH,lt t (by rw [e1];simp),fun k hk => ?_,g7⟩
   ·rw [k1 rfl];simp [cellsOf]
   ·simp only at hk;rw [dG,dw,kM,RN (by omega)];rfl
  | false=>
   have h1:i.size=1:=by rcases arD with h1|h1<;>simp_all
   refine ⟨v,[v],_,eQ,?_,by simp [<-dH,h1],lt t (by rw [e1];simp),fun k hk => ?_,g7⟩
   ·have yS:=KH lV g7 0 (by omega);have aZ:=R3 yS;rw [k0 rfl];simp only [qd] at aZ ⊢;cases hx:cellD w b 0 with
    | agg l=>exact absurd hx (aZ l).1
    | tuple l=>exact absurd hx (aZ l).2
    | _=>simp [cellsOf]
   ·have:k=0:=by simp only at hk;omega
    subst this;rw [k0 rfl];rfl
end
def Jz (sg:aM) (es:aa Ent) (zs:aa (Nat × Nat)) (np:Nat):aa YD->Nat->Bool
 | [],_=>true
 | I::Is,b=>(CT.nowns I.cs || KP es I.t I.off I.cs.length np b)&&agy sg es zs I.cs&&Jz sg es zs np Is (b+I.cs.length)
section
variable {P:aS} {ac:Nat->Nat->aj} {κ0 κ:aP} {w0 w:aB} {N:Nat} {tg:Nat->TT} {sv s:Nat->AV} {a:Act} {D:aa TT} {sg:aM} {es:aa Ent} {zs:aa (Nat × Nat)}
theorem Wy (h:R ac κ0 w0 κ w N tg sv (gm a)) (hL:Le (gt D) s tg sv) (hN:sg.ps.length<=N) {np:Nat}:∀{rvs:aa ResultVar} {Is:aa YD} {base:Nat} {as:aa A} {pre:aa aj},H_ P D rvs=some Is->Jz sg es zs np Is base=true ->
  Sm s Is=some as->pre.length=base ->
  ∃(xs vs:aa aj),xs.length=rvs.length/\(∀(i:Nat) rv,rvs[i]?=some rv->∃x,xs[i]?=some x/\(Sn a.tmps rv).run P w = .ok x w)/\uO (Is.map fun I=>(I.ag,I.cs.length)) xs=some vs/\vs.length=(Is.flatMap (·.cs)).length /\
   (∀I,Is=[I]->∃x,xs=[x]/\cellsOf I.ag x=some vs)/\aC (uy κ0 κ (qh es zs)) w (Is.flatMap (·.cs)) (np,[]) base (fun k=>(pre++vs).getD k undef) as
 | [],Is,base,as,pre,hx,_,hg,_=>by
  simp only [H_,aO] at hx;subst hx;simp only [Sm,aO] at hg;subst hg;exact ⟨[],[],rfl,by simp,rfl,rfl,by simp,by simp [aC]⟩
 | rv::rvs,Is,base,as,pre,hx,aV,hg,hp=>by
  simp only [H_] at hx;split at hx;case h_2=>cases hx
  case h_1 I Is' hI hIs=>
  cases hx;simp only [Jz,aU] at aV;simp only [Sm] at hg;split at hg;case h_2=>cases hg
  case h_1 a1 r1 hg1 hg2=>
  cases hg;obtain ⟨x,vs,get,g1,g2,g3,g4,gg,g5⟩:=aDJ h hL hI hg1;obtain ⟨xs,ws,k1,k2,k3,k4,k5,k6⟩:=Wy (np:=np) (pre:=pre++vs) (base:=base+I.cs.length) h hL hN hIs aV.2 hg2 (by simp [hp,g3]);refine ⟨x::xs,vs++ws,by simp [k1],fun i rv' hi => ?_,?_,by simp [g3,k4],fun J hJ => ?_,?_⟩
  ·cases i with
   | zero=>simp at hi;subst hi;exact ⟨x,rfl,g1⟩
   | succ i=>obtain ⟨y,h1,h2⟩:=k2 i rv' (by simpa using hi);exact ⟨y,by simpa using h1,h2⟩
  ·simp only [bz,uO,g2,k3,g3,if_true]
  ·simp only [RV] at hJ;obtain ⟨rfl,rfl⟩:=hJ;simp only [bM] at k3;cases xs with
   | nil=>
    simp only [uO,aO] at k3;subst k3;exact ⟨x,rfl,by simpa using g2⟩
   | cons=>simp [uO] at k3
  ·simp only [X3];refine Ct (amU h hN (by have:=h.nle;omega) aV.1.1 (YC aV.1.2) (fun i hi => ?_) g5) ?_
   ·rw [gg i hi,dw,dw,uZ (by omega),hp,Nat.add_sub_cancel_left,rQ (by omega)]
   ·rw [<-lW];exact k6
end
end Go.Fw
