/- A way of showing what a function computes: the blocks of the heap are owned by the places that hold them; this is a part of it. No conditions. -/
import Derived.Test.YtlolhpdimikcdaaGreatG2
import Derived.LoopN
set_option linter.unusedVariables false
set_option linter.unusedSimpArgs false
set_option linter.unusedSectionVars false
namespace Go.Fw
def noStp:Stp:=⟨[],fun T=>T,[],.det fun _=>none⟩
def stOf (rs:List OpR) (r:Rgn) (i:Nat):Stp:=match rs[i]? with
 | some o=>o.S ((o.cb (r.sL allT i)).getD true)
 | none=>noStp
section
variable {P:Program} {sigs:FuncId->Option Sig} {N:Nat} {D0l:List TT} {hid:Nat->List Nat} {hints:List Hint} {l:List Oper} {rs:List OpR} {bef:Nat->Nat->Bool} {s0:Nat->AV} {np:Nat->Bool} {px:Nat->Value} {wl:List Bool} {vl:List (List AV)}
def Hold (rs:List OpR) (r:Rgn) (wl:List Bool) (p:Nat × Bool):Prop:=wl.getD p.1 false=true/\∃t,dOf rs p.1=some t/\boolAt (r.sL allT (p.1+1)) t=some p.2
theorem wd_iff {i t:Nat}:(rgnOf rs bef (gt D0l) s0 np px wl vl).Wd i t↔t∈wdOf rs i:=by
 simp only [Rgn.Wd,rgnOf,wdOf,List.mem_append,Option.mem_toList]
theorem idxOf_ok {c:Nat}:∀{pre:List OpR} {j:Nat},idxOf c pre=some j->j<pre.length/\∃o,pre[pre.length-1-j]?=some o/\o.d=some c
 | [],j,h=>by simp [idxOf] at h
 | o::pre,j,h=>by
  simp only [idxOf] at h;split at h
  ·rename_i hd;cases h;exact ⟨by simp,o,by simp,by simpa using hd⟩
  ·obtain ⟨h1,o',h2,h3⟩:=idxOf_ok h;refine ⟨by simp;omega,o',?_,h3⟩;rw [List.length_cons,show pre.length+1-1-j=(pre.length-1-j)+1 from by omega];simpa using h2
theorem want_hold (hok:okRg np N D0l rs bef hid=true) (hW:∀(i:Nat) (o:OpR),rs[i]?=some o->wl.getD i false=wantR rs wl ((rgnOf rs bef (gt D0l) s0 np px wl vl).sL allT i) o) {i:Nat} {o:OpR} (ho:rs[i]?=some o) {p:Nat × Bool}
  (hg:o.gd=some p):wl.getD i false=true↔Hold rs (rgnOf rs bef (gt D0l) s0 np px wl vl) wl p:=by
 obtain ⟨j,b⟩:=p;obtain ⟨_,_,_,_,h5,_,_⟩:=okRg_at hok ho;obtain ⟨_,hji,⟨t,ht,honly,_,_⟩,_⟩:=h5 j b hg;have hi:=(List.getElem?_eq_some_iff.1 ho).1;have hs:=s_only (r:=rgnOf rs bef (gt D0l) s0 np px wl vl) (L:=allT) (j:=j) (t:=t) (fun k hk hw=>honly k hk (wd_iff.1 hw)) i hji (by simp only [rgnOf];omega);rw [hW i o ho];unfold wantR Hold;rw [hg];simp only [ht];have hb:boolAt ((rgnOf rs bef (gt D0l) s0 np px wl vl).sL allT i) t=boolAt ((rgnOf rs bef (gt D0l) s0 np px wl vl).sL allT (j+1)) t:=by unfold boolAt;rw [hs]
 rw [hb];constructor
 ·intro h;simp only [Bool.and_eq_true] at h;refine ⟨h.1,t,rfl,?_⟩;have h2:=h.2;cases hbo:boolAt ((rgnOf rs bef (gt D0l) s0 np px wl vl).sL allT (j+1)) t with
  | none=>rw [hbo] at h2;cases h2
  | some c=>rw [hbo] at h2;simp only [beq_iff_eq] at h2;rw [h2]
 ·rintro ⟨h1,t',ht',h2⟩;cases ht';rw [h1,h2];simp
theorem rev_at {pre post:List OpR} {i j:Nat} (hrs:rs=pre++post) (hl:pre.length=i) (hj:j<i):pre.reverse[pre.reverse.length-1-j]?=rs[j]?:=by
 rw [List.length_reverse,hl,List.getElem?_reverse (by omega)];rw [hrs,List.getElem?_append_left (by omega)];congr 1;omega
theorem chain_hold (hok:okRg np N D0l rs bef hid=true) (hW:∀(i:Nat) (o:OpR),rs[i]?=some o->wl.getD i false=wantR rs wl ((rgnOf rs bef (gt D0l) s0 np px wl vl).sL allT i) o) {i:Nat} (hi:i<=rs.length) :
  ∀(f:Nat) (gd:Option (Nat × Bool)),(∀p,gd=some p->p.1<i/\Hold rs (rgnOf rs bef (gt D0l) s0 np px wl vl) wl p)->∀q,q∈chR (rs.take i).reverse f gd->q.1<i/\Hold rs (rgnOf rs bef (gt D0l) s0 np px wl vl) wl q
 | 0,_,_,q,hq=>by simp [chR] at hq
 | f+1,none,_,q,hq=>by simp [chR] at hq
 | f+1,some (j,b),h,q,hq=>by
  obtain ⟨hji,hh⟩:=h _ rfl;simp only [chR,List.mem_cons] at hq;rcases hq with rfl|hq
  ·exact ⟨hji,hh⟩
  ·rw [rev_at (rs:=rs) (pre:=rs.take i) (post:=rs.drop i) (i:=i) (by simp) (by simp;omega) hji] at hq;cases hoj:rs[j]? with
   | none=>rw [hoj] at hq;simp at hq
   | some oj=>
    rw [hoj] at hq;simp only at hq;refine chain_hold hok hW hi f oj.gd (fun p hp => ?_) q hq;obtain ⟨_,_,_,_,h5,_,_⟩:=okRg_at hok hoj;obtain ⟨_,hpj,_⟩:=h5 p.1 p.2 hp;exact ⟨by omega,(want_hold hok hW hoj hp).1 hh.1⟩
theorem okg_want (hok:okRg np N D0l rs bef hid=true) (hW:∀(i:Nat) (o:OpR),rs[i]?=some o->wl.getD i false=wantR rs wl ((rgnOf rs bef (gt D0l) s0 np px wl vl).sL allT i) o) {ch:List (Nat × Bool)} (hch:∀q,q∈ch->Hold rs (rgnOf rs bef (gt D0l) s0 np px wl vl) wl q)
  {j:Nat} {o:OpR} (ho:rs[j]?=some o) (hg:okg ch o.gd=true):wl.getD j false=true:=by
 cases hgd:o.gd with
 | none=>rw [hW j o ho];unfold wantR;rw [hgd]
 | some p=>
  rw [hgd] at hg;simp only [okg] at hg;exact (want_hold hok hW ho hgd).2 (hch p (by simpa using hg))
theorem gt_none {t:Nat} (h:D0l[t]?=none):gt D0l t = .dead:=by unfold gt;rw [List.getD_eq_getElem?_getD,h];rfl
theorem gt_some {t:Nat} {T:TT} (h:D0l[t]?=some T):gt D0l t=T:=by unfold gt;rw [List.getD_eq_getElem?_getD,h];rfl
theorem g_ok (hok:okRg np N D0l rs bef hid=true) (hW:∀(i:Nat) (o:OpR),rs[i]?=some o->wl.getD i false=wantR rs wl ((rgnOf rs bef (gt D0l) s0 np px wl vl).sL allT i) o) {i:Nat} {o:Oper} {x:OpR} {h:Hint} (hx:rs[i]?=some x)
  (hc:chkOne P sigs N D0l (rs.take i).reverse (hid i) h o=some x) (hw:wl.getD i false=true) {b:Bool} (hb:x.cb ((rgnOf rs bef (gt D0l) s0 np px wl vl).sL allT i)=some b) (t:Nat) :
  x.g b t = .dead\/(x.g b t=(rgnOf rs bef (gt D0l) s0 np px wl vl).dL (Rgn.lt i) i t/\t∉hid i):=by
 have hi:=(List.getElem?_eq_some_iff.1 hx).1;have hgd:∀p,x.gd=some p->p.1<i/\Hold rs (rgnOf rs bef (gt D0l) s0 np px wl vl) wl p:=fun p hp=>by
  obtain ⟨_,_,_,_,h5,_,_⟩:=okRg_at hok hx;exact ⟨(h5 p.1 p.2 hp).2.1,(want_hold hok hW hx hp).1 hw⟩
 have hxg:x.gd=o.guard:=(chkOne_ok hc).gd;have hch:=fun q hq=>chain_hold hok hW (i:=i) (by omega) ((rs.take i).reverse.length+1) o.guard (fun p hp=>hgd p (by rw [hxg,hp])) q hq
 have hlen:(rs.take i).reverse.length=i:=by simp;omega
 have key:∀ch:List (Nat × Bool),(∀q,q∈ch->Hold rs (rgnOf rs bef (gt D0l) s0 np px wl vl) wl q)->∀t,(if (hid i).contains t then TT.dead else lkR (gt D0l) ch (rs.take i).reverse t) = .dead \/
   ((if (hid i).contains t then TT.dead else lkR (gt D0l) ch (rs.take i).reverse t)=(rgnOf rs bef (gt D0l) s0 np px wl vl).dL (Rgn.lt i) i t/\t∉hid i):=by
  intro ch hch t;by_cases hh:(hid i).contains t=true
  ·rw [if_pos hh];exact .inl rfl
  ·rw [if_neg hh];have:=lkR_ok (D0:=gt D0l) (s0:=s0) (np:=np) (px:=px) (bef:=bef) (vl:=vl) (rs:=rs) (wl:=wl) (ch:=ch) (L:=Rgn.lt i) (pre:=(rs.take i).reverse) (post:=rs.drop i) (by simp) (fun j hj=>by rw [hlen] at hj;simp [Rgn.lt,hj])
    (fun j o' _ ho' hg=>okg_want hok hW hch ho' hg) t
   rw [hlen] at this;rcases this with h1|h1
   ·exact .inl h1
   ·exact .inr ⟨h1,by simpa using hh⟩
 unfold chkOne at hc;simp only at hc;split at hc
 ·rename_i c xx yy d hop hd;split at hc;case h_2=>cases hc
  case h_1 X Y C1 C2 hX hY hC1 hC2=>
  split at hc;case isFalse=>cases hc
  case isTrue hdN=>
  cases hc;simp only at hb ⊢;refine key _ (fun q hq => ?_) t;split at hq
  ·rename_i j hj;split at hq
   ·rename_i oj hoj;split at hq
    ·rename_i hgj;rcases List.mem_cons.1 hq with rfl|hq
     ·obtain ⟨hjl,oj',hoj',hdj⟩:=idxOf_ok hj;rw [hoj] at hoj';cases hoj';rw [hlen] at hjl;rw [rev_at (rs:=rs) (pre:=rs.take i) (post:=rs.drop i) (i:=i) (by simp) (by simp;omega) hjl] at hoj;have hwj:=okg_want hok hW (fun q hq=>(hch q hq).2) hoj hgj;obtain ⟨_,_,_,_,_,_,h7⟩:=okRg_at hok hx;have hdo:dOf rs j=some c:=by unfold dOf;rw [hoj];exact hdj
      have hcj:c∈wdOf rs j:=by simp [wdOf,hdo]
      have hs:=s_only (r:=rgnOf rs bef (gt D0l) s0 np px wl vl) (L:=allT) (j:=j) (t:=c) (fun k hk hw=>h7 c rfl k j hk (by omega) (wd_iff.1 hw) hcj) i hjl (by simp only [rgnOf];omega);refine ⟨hwj,c,hdo,?_⟩;unfold boolAt at hb ⊢;rw [<-hs];exact hb
     ·exact (hch q hq).2
    ·exact (hch q hq).2
   ·exact (hch q hq).2
  ·exact (hch q hq).2
 ·split at hc;case h_2=>cases hc
  case h_1 S hS=>
  cases hc;simp only at hb ⊢;exact key _ (fun q hq=>(hch q hq).2) t
end
end Go.Fw
namespace Go.Fw
section
variable {P:Program} {sigs:FuncId->Option Sig} {N:Nat} {D0l:List TT} {hid:Nat->List Nat} {hints:List Hint} {l:List Oper} {rs:List OpR} {bef:Nat->Nat->Bool} {s0:Nat->AV} {np:Nat->Bool} {px:Nat->Value} {wl:List Bool} {vl:List (List AV)}
theorem upds_mem {l:List (Nat × TT)} {t:Nat} (h:t∈l.map (·.1)):(t,upds (fun _=>.dead) l t)∈l:=by
 induction l with
 | nil=>simp at h
 | cons p l ih=>
  simp only [upds];by_cases hp:t=p.1
  ·rw [if_pos hp,hp];exact List.mem_cons_self
  ·rw [if_neg hp];simp only [List.map_cons,List.mem_cons] at h;exact List.mem_cons_of_mem _ (ih (h.resolve_left hp))
theorem boolAt_match (y:AV) (b:Bool):(match (match y with | .v [.v (.bool c)] _=>some c|_=>none:Option Bool) with|some c=>c == b|none=>false)=(match y with | .v [.v (.bool c)] _=>c == b|_=>false):=by
 cases y with
 | p is=>rfl
 | n=>rfl
 | v as is=>
  cases as with
  | nil=>rfl
  | cons x as=>
   cases x with
   | s xs=>rfl
   | v z=>
    cases as with
    | cons=>cases z<;>rfl
    | nil=>cases z<;>rfl
theorem rgnOk_of (hchk:chkOps P sigs N D0l hid hints 0 l []=some rs) (hok:okRg np N D0l rs bef hid=true) (hlt:∀j k,bef j k=true->j<k)
  (hW:∀(i:Nat) (o:OpR),rs[i]?=some o->wl.getD i false=wantR rs wl ((rgnOf rs bef (gt D0l) s0 np px wl vl).sL allT i) o)
  (hV:∀(i:Nat) (o:OpR),rs[i]?=some o->wl.getD i false=true->∃b,o.cb ((rgnOf rs bef (gt D0l) s0 np px wl vl).sL allT i)=some b/\(o.S b).eff.rel P ((rgnOf rs bef (gt D0l) s0 np px wl vl).sL allT i) (vl.getD i [])) :
  RgnOk P N l.toArray (stOf rs (rgnOf rs bef (gt D0l) s0 np px wl vl)) (rgnOf rs bef (gt D0l) s0 np px wl vl):=by
 obtain ⟨hlen,_,hat⟩:=chkOps_at hchk rfl;simp only [Nat.zero_add] at hlen hat
 -- the operation and what was found of it
 have at_op:∀i o,l.toArray[i]?=some o->∃x,rs[i]?=some x/\chkOne P sigs N D0l ((rs.take i).reverse) (hid i) (hints.getD i ⟨false,[],[]⟩) o=some x/\OneOk P N o x:=by
  intro i o ho;obtain ⟨x,h1,h2⟩:=hat i o (by simpa using ho);exact ⟨x,h1,h2,chkOne_ok h2⟩
 have at_rs:∀i,i<rs.length->∃o x,l.toArray[i]?=some o/\rs[i]?=some x/\OneOk P N o x:=by
  intro i hi;have hi':i<l.length:=by omega
  have ho:l.toArray[i]?=some l[i]:=by simp [hi']
  obtain ⟨x,h1,_,h3⟩:=at_op i _ ho;exact ⟨_,x,ho,h1,h3⟩
 have hst:∀i x,rs[i]?=some x->stOf rs (rgnOf rs bef (gt D0l) s0 np px wl vl) i=x.S ((x.cb ((rgnOf rs bef (gt D0l) s0 np px wl vl).sL allT i)).getD true):=fun i x hx=>by unfold stOf;rw [hx]
 have hup:∀i x,rs[i]?=some x->upOf rs i=x.up:=fun i x hx=>by unfold upOf;rw [hx]
 have hd:∀i x,rs[i]?=some x->dOf rs i=x.d:=fun i x hx=>by unfold dOf;rw [hx]
 refine ⟨by simp [rgnOf,hlen],fun i hi => ?_,fun i o ho => ?_,hlt,fun i j t hij hj hb => ?_,fun i o j b ho hg => ?_,fun i o ho => ?_,fun i hi hw t ht => ?_,fun i hi hw d hdd t htd => ?_,fun i o ho hw => ?_,fun i hi hw => ?_,fun i hi d hdd => ?_⟩
 ·obtain ⟨o,x,_,hx,h1⟩:=at_rs i hi;obtain ⟨ks,hks⟩:=h1.up;refine ⟨ks,?_⟩;show upOf rs i=_;rw [hst i x hx,h1.sup,hup i x hx,hks]
 ·obtain ⟨x,hx,_,h1⟩:=at_op i o ho;show dOf rs i=_;rw [hd i x hx,h1.d]
 ·rw [wd_iff,wd_iff];rintro ⟨h1,h2⟩;obtain ⟨o,x,_,hx,_⟩:=at_rs i (by simp only [rgnOf] at hj;omega);obtain ⟨k1,_⟩:=okRg_at hok hx;have hb2:bef j i=false:=by
   cases hb2:bef j i with
   | false=>rfl
   | true=>have:=hlt j i hb2;omega
  exact (k1 j hj (by omega) hb hb2 t h2).2 h1
 ·obtain ⟨x,hx,_,h1⟩:=at_op i o ho;obtain ⟨_,_,_,_,k5,_,_⟩:=okRg_at hok hx;obtain ⟨g1,g2,⟨t,ht,honly,hmem,hT⟩,_⟩:=k5 j b (by rw [h1.gd,hg]);have hi:=(List.getElem?_eq_some_iff.1 hx).1;refine ⟨g1,t,ht,fun k hk hw=>honly k hk (wd_iff.1 hw),fun hw => ?_⟩;have:=d_only (r:=rgnOf rs bef (gt D0l) s0 np px wl vl) (L:=Rgn.lt i) (j:=j) (t:=t) (by simp only [rgnOf];omega) (by simp [Rgn.lt,g2]) hw hmem (fun k hk hw'=>honly k hk (wd_iff.1 hw')) i g2 (by simp only [rgnOf];omega);rw [this];exact hT
 ·obtain ⟨x,hx,_,h1⟩:=at_op i o ho;show wl.getD i false=_;rw [hW i x hx,sL_lt (Nat.le_refl i)];unfold wantR;rw [h1.gd];cases o.guard with
  | none=>rfl
  | some p=>
   obtain ⟨j,b⟩:=p;simp only;show (wl.getD j false&&_)=(wl.getD j false&&_)
   congr 1;show (match dOf rs j with|some t=>_|none=>_)=(match dOf rs j with|some t=>_|none=>_)
   cases dOf rs j with
   | none=>rfl
   | some t=>
    simp only;unfold boolAt;exact boolAt_match _ b
 ·obtain ⟨o,x,_,hx,h1⟩:=at_rs i hi;obtain ⟨_,k2,k3,_⟩:=okRg_at hok hx;have ht':t∉x.up.map (·.1):=by rw [<-hup i x hx];exact ht
  have hkl:(stOf rs (rgnOf rs bef (gt D0l) s0 np px wl vl) i).kl=(x.S true).kl:=by rw [hst i x hx,h1.kl]
  rw [hkl];refine ⟨?_,fun j hj hji hb T hT=>k2 j hj hji hb t T hT ht'⟩;show (x.S true).kl (gt D0l t)=gt D0l t;cases hD:D0l[t]? with
  | none=>rw [gt_none hD];exact h1.kd
  | some T=>
   rw [gt_some hD];by_cases hnd:T = .dead
   ·rw [hnd];exact h1.kd
   ·exact k3 t T hD hnd ht'
 ·obtain ⟨o,x,ho,hx,h1⟩:=at_rs i hi;obtain ⟨_,_,_,_,k5,_,_⟩:=okRg_at hok hx;have hgd:∃p,x.gd=some p:=by
   cases hg:x.gd with
   | some p=>exact ⟨p,rfl⟩
   | none=>
    exfalso;have:=hW i x hx;unfold wantR at this;rw [hg] at this;simp only at this;have hw':wl.getD i false=false:=hw;rw [this] at hw';cases hw'
  obtain ⟨⟨j,b⟩,hg⟩:=hgd;obtain ⟨_,_,_,k6⟩:=k5 j b hg;have hdx:x.d=some d:=by rw [<-hd i x hx];exact hdd
  obtain ⟨k7,k8⟩:=k6 d hdx;refine ⟨?_,fun j hj hji hb T hT=>k8 j hj hji hb t T hT htd⟩;show (gt D0l t).kill [d] []=gt D0l t;cases hD:D0l[t]? with
  | none=>rw [gt_none hD];rfl
  | some T=>rw [gt_some hD];exact k7 t T hD htd
 ·obtain ⟨x,hx,hc,h1⟩:=at_op i o ho;obtain ⟨b,hb,hrel⟩:=hV i x hx hw;obtain ⟨k1,_,_,_,_,k6,_⟩:=okRg_at hok hx;have hst':stOf rs (rgnOf rs bef (gt D0l) s0 np px wl vl) i=x.S b:=by rw [hst i x hx,hb];rfl
  rw [hst'];refine ⟨x.g b,h1.ok b,fun t => ?_,fun t ht hz => ?_⟩
  ·rcases g_ok hok hW hx hc hw hb t with h|⟨h2,h3⟩
   ·exact .inl h
   ·refine .inr ⟨h2,fun j hj hwd => ?_⟩;rw [wd_iff] at hwd;by_cases hji:j=i
    ·exact .inr (.inr hji)
    ·cases hb1:bef i j with
     | true=>exact .inr (.inl hb1)
     | false=>
      cases hb2:bef j i with
      | true=>exact .inl hb2
      | false=>exact absurd (k1 j hj hji hb1 hb2 t hwd).1 h3
  ·-- what has no value: the tail of what is put
   have hv:=h1.vl b _ _ hrel;have h6:=k6 b;have hz':t∉(((x.S b).up.map (·.1)).zip (vl.getD i [])).map (·.1):=hz;generalize (x.S b).up=up at ht hz' h6 ⊢;cases up with
   | nil=>simp at ht
   | cons p rest=>
    cases hvl:vl.getD i [] with
    | nil=>rw [hvl] at hv;simp at hv
    | cons v0 vs=>
     rw [hvl] at hz';simp only [List.map_cons,List.zip_cons_cons,List.mem_cons,not_or] at hz';have htp:=hz'.1;simp only [List.map_cons,List.mem_cons] at ht;have hmem:=upds_mem (ht.resolve_left htp);have:=h6 _ (by simpa using hmem);simp only [upds,if_neg htp];exact this
 ·obtain ⟨o,x,_,hx,h1⟩:=at_rs i hi;obtain ⟨b,hb,hrel⟩:=hV i x hx hw;have hst':stOf rs (rgnOf rs bef (gt D0l) s0 np px wl vl) i=x.S b:=by rw [hst i x hx,hb];rfl
  rw [hst',sL_lt (Nat.le_refl i)];exact ⟨hrel,(h1.vl b _ _ hrel).1⟩
 ·obtain ⟨o,x,_,hx,h1⟩:=at_rs i hi;obtain ⟨_,_,_,k4,_⟩:=okRg_at hok hx;exact k4 d (by rw [<-hd i x hx];exact hdd)
end
end Go.Fw
namespace Go.Fw
structure RD (np:Nat->Bool) (px:Nat->Value) (ac:Nat->Nat->Value) (κ0:Col) (w0:World) (N:Nat) (D:Nat->TT) (s:Nat->AV) (a:Act) (w:World):Prop where
 st:∃κ tg sv,R ac κ0 w0 κ w N tg sv (gm a)/\Le D s tg sv
 size:a.tmps.size=N
 defers:a.defers=[]
 par:∀i,np i=true->gm a i=px i
theorem Le.trans {D D':Nat->TT} {s s':Nat->AV} {tg:Nat->TT} {sv:Nat->AV} (h:Le D s tg sv) (h':∀t,D' t = .dead\/(D' t=D t/\s' t=s t)):Le D' s' tg sv:=by
 intro t;rcases h' t with h1|⟨h1,h2⟩
 ·exact .inl h1
 ·rcases h t with h3|⟨h3,h4⟩
  ·left;rw [h1,h3]
  ·right;exact ⟨by rw [h1,h3],by rw [h2,h4]⟩
def aftR (N:Nat) (D0l:List TT) (rs:List OpR):List TT:=(List.range N).map fun t=>lkR (gt D0l) [] rs.reverse t
theorem gt_aftR {N:Nat} {D0l:List TT} {rs:List OpR} (t:Nat):gt (aftR N D0l rs) t = .dead\/gt (aftR N D0l rs) t=lkR (gt D0l) [] rs.reverse t:=by
 unfold gt aftR;rw [List.getD_eq_getElem?_getD,List.getElem?_map];by_cases h:t<N
 ·rw [List.getElem?_range h];exact .inr rfl
 ·rw [List.getElem?_eq_none (by simp;omega)];exact .inl rfl
section
variable {P:Program} {sigs:FuncId->Option Sig} {N:Nat} {D0l:List TT} {hid:Nat->List Nat} {hints:List Hint} {l:List Oper} {rs:List OpR} {bef:Nat->Nat->Bool} {s0:Nat->AV} {np:Nat->Bool} {px:Nat->Value} {K:(Nat->AV)->Prop}
variable {ac:Nat->Nat->Value} {κ0:Col} {w0:World} {a:Act} {w:World} {Q:Exit->Act->World->Prop} {id:Nat}
theorem region_core (hchk:chkOps P sigs N D0l hid hints 0 l []=some rs) (hok:okRg np N D0l rs bef hid=true) (hlt:∀j k,bef j k=true->j<k) (hWo:Wops P rs rs [] s0 K)
  (hQ:∀s a w,K s->RD np px ac κ0 w0 N (gt (aftR N D0l rs)) s a w->Q .normal a w) :
  ∃St r,RgnOk P N l.toArray St r/\r.bef=bef/\r.n=l.length/\(∀a w,RD np px ac κ0 w0 N (gt D0l) s0 a w->RInv ac κ0 w0 N r (fun _=>false) a w)/\∀a w,RInv ac κ0 w0 N r (Rgn.lt r.n) a w->Q .normal a w:=by
 have hgd:∀(i:Nat) (o:OpR) (j:Nat) (b:Bool),rs[i]?=some o->o.gd=some (j,b)->j<i:=fun i o j b ho hg=>by
  obtain ⟨_,_,_,_,h5,_,_⟩:=okRg_at hok ho;exact (h5 j b hg).2.1
 obtain ⟨wl,vl,_,k2,k3⟩:=Wops_ex (bef:=bef) (D0:=gt D0l) (s0:=s0) (np:=np) (px:=px) (wl:=[]) (vl:=[]) (pre:=[]) (os:=rs) hgd rfl rfl rfl hWo;have hW:∀(i:Nat) (o:OpR),rs[i]?=some o->wl.getD i false=wantR rs wl ((rgnOf rs bef (gt D0l) s0 np px wl vl).sL allT i) o:=fun i o ho=>(k3 i o (by simp) ho).1
 have hV:=fun (i:Nat) (o:OpR) (ho:rs[i]?=some o)=>(k3 i o (by simp) ho).2
 have hrok:=rgnOk_of hchk hok hlt hW hV;refine ⟨_,_,hrok,rfl,by rw [hrok.n];simp,fun a w h => ?_,fun a w h => ?_⟩
 ·obtain ⟨κ,tg,sv,hR,hL⟩:=h.st;refine ⟨⟨κ,tg,sv,hR,?_⟩,h.size,h.defers,h.par,fun j t _ hf=>by cases hf⟩;rw [Rgn.dL_none _ fun _ _=>rfl,Rgn.sL_none _ fun _ _=>rfl];exact hL
 ·obtain ⟨κ,tg,sv,hR,hL⟩:=h.st;refine hQ _ a w k2 ⟨⟨κ,tg,sv,hR,hL.trans fun t => ?_⟩,h.size,h.defers,h.par⟩;rcases gt_aftR (N:=N) (D0l:=D0l) (rs:=rs) t with h1|h1
  ·exact .inl h1
  ·have:=lkR_ok (D0:=gt D0l) (s0:=s0) (np:=np) (px:=px) (bef:=bef) (vl:=vl) (rs:=rs) (wl:=wl) (ch:=[]) (L:=Rgn.lt rs.length) (pre:=rs.reverse) (post:=[]) (by simp) (fun j hj=>by simp at hj;simp [Rgn.lt,hj])
    (fun j o' _ ho' hg=>okg_want hok hW (ch:=[]) (fun q hq=>by simp at hq) ho' hg) t
   rw [List.length_reverse] at this;rcases this with h2|h2
   ·left;rw [h1,h2]
   ·right;refine ⟨by rw [h1,h2];rfl,?_⟩;rw [sL_lt (Nat.le_refl _)];rfl
theorem region_list (hchk:chkOps P sigs N D0l (fun _=>[]) hints 0 l []=some rs) (hok:okRg np N D0l rs (fun j i=>decide (j<i)) (fun _=>[])=true) (hWo:Wops P rs rs [] s0 K)
  (hQ:∀s a w,K s->RD np px ac κ0 w0 N (gt (aftR N D0l rs)) s a w->Q .normal a w) (h:RD np px ac κ0 w0 N (gt D0l) s0 a w):(Code.region id l.toArray false).wp P Q a w:=by
 obtain ⟨St,r,hr,_,hn,hini,hfin⟩:=region_core hchk hok (fun j k h=>by simpa using h) hWo hQ;refine wp_region ?_;have:=rgn_list hr hfin r.n 0 a w (by omega) ((hini a w h).congr fun j _=>by simp [Rgn.lt]);rw [<-List.range_eq_range'] at this;simpa [hn] using this
def befD (befs:List Nat) (j i:Nat):Bool:=decide (j<i)&&(befs.getD i 0).testBit j
def egB (l:List Oper) (i:Nat):Bool:=
 match l[i]? with
 | some o=>isExt o&&o.guard.isNone&&l.zipIdx.all fun p=>(p.2 == i) || (p.1.after.toList.any fun e=>Region.binds .any e&&(e.on == i)) || (o.after.toList.any fun e=>Region.binds .any e&&(e.on == p.2)) || o.apart l.toArray p.1
 | none=>false
def egF (l:List Oper):List Nat->Nat->Nat
 | [],s=>s
 | j::r,s=>egF l r (if egB l j then s ||| 2 ^ j else s)
def egM (l:List Oper):Nat:=egF l (List.range l.length) 0
theorem egF_bit {l:List Oper} {j:Nat}:∀{r:List Nat} {s:Nat},(egF l r s).testBit j=true->s.testBit j=true\/egB l j=true
 | [],_,h=>.inl h
 | k::r,s,h=>by
  unfold egF at h;rcases egF_bit h with h1|h1
  ·split at h1
   ·rename_i hk;rw [Nat.testBit_or,Nat.testBit_two_pow,Bool.or_eq_true] at h1;rcases h1 with h1|h1
    ·exact .inl h1
    ·have:k=j:=by simpa using h1
     subst this;exact .inr hk
   ·exact .inl h1
  ·exact .inr h1
theorem egM_bit {l:List Oper} {j:Nat} (h:(egM l).testBit j=true):egB l j=true:=by
 rcases egF_bit h with h|h
 ·simp at h
 ·exact h
def forceN {α:Type} (n:Nat) (f:Nat->α):α:=match n with
 | 0=>f 0
 | k+1=>f (k+1)
theorem forceN_eq {α:Type} (n:Nat) (f:Nat->α):forceN n f=f n:=by cases n<;>rfl
def egP (l:List Oper) (m:Nat) (befs:List Nat) (j i:Nat):Bool:=
 m.testBit j&&decide (j<i)&&match l[j]?,l[i]? with
  | some oj,some oi=>oj.after.toList.all fun e=>!Region.binds .any e || oi.after.toList.any fun e'=>Region.binds .any e'&&((e'.on == e.on) || befD befs e.on e'.on)
  | _,_=>false
def okD (l:List Oper) (befs:List Nat):Bool:=forceN (egM l) fun m=>
 Region.noSelect l.toArray&&l.zipIdx.all fun p=>(p.1.after.toList.all fun e=>!Region.binds .any e || decide (e.on<p.2)) &&
  ((List.range p.2).all fun j=>!befD befs j p.2 || (p.1.after.toList.any fun e=>Region.binds .any e&&((e.on == j) || befD befs j e.on)) || egP l m befs j p.2)
theorem region_any {befs:List Nat} (hD:okD l befs=true) (hchk:chkOps P sigs N D0l hid hints 0 l []=some rs) (hok:okRg np N D0l rs (befD befs) hid=true) (hWo:Wops P rs rs [] s0 K)
  (hQ:∀s a w,K s->RD np px ac κ0 w0 N (gt (aftR N D0l rs)) s a w->Q .normal a w) (h:RD np px ac κ0 w0 N (gt D0l) s0 a w):wpAny P .any l.toArray (fun e a w=>e = .normal/\Q .normal a w) l.toArray.size (Array.replicate l.toArray.size false) a { w with drawn:=w.drawn+1 }:=by
 have hlt:∀j k,befD befs j k=true->j<k:=fun j k h=>by simp [befD] at h;exact h.1
 obtain ⟨St,r,hr,hbef,hn,hini,hfin⟩:=region_core hchk hok hlt hWo hQ;simp only [okD,forceN_eq,Bool.and_eq_true] at hD;obtain ⟨hsel,hD⟩:=hD;have hat:∀i o,l.toArray[i]?=some o->(∀e,e∈o.after->Region.binds .any e=true->e.on<i)/\∀j,befD befs j i=true->(∃e,e∈o.after/\Region.binds .any e=true/\(e.on=j\/befD befs j e.on=true))\/egP l (egM l) befs j i=true:=by
  intro i o ho;have hm:(o,i)∈l.zipIdx:=by rw [List.mem_zipIdx_iff_getElem?];simpa using ho
  have:=(List.all_eq_true.1 hD) (o,i) hm;simp only [Bool.and_eq_true] at this;refine ⟨fun e he hb => ?_,fun j hj => ?_⟩
  ·have h2:=(List.all_eq_true.1 this.1) e (by simpa using he);simpa [hb] using h2
  ·have h2:=(List.all_eq_true.1 this.2) j (List.mem_range.2 (hlt j i hj));rw [hj] at h2;simp only [Bool.not_true,Bool.false_or,Bool.or_eq_true] at h2;rcases h2 with h2|h2
   ·simp only [List.any_eq_true,Bool.and_eq_true,Bool.or_eq_true,beq_iff_eq] at h2;obtain ⟨e,h3,h4,h5⟩:=h2;exact .inl ⟨e,by simpa using h3,h4,h5⟩
   ·exact .inr h2
 have hR':RD np px ac κ0 w0 N (gt D0l) s0 a { w with drawn:=w.drawn+1 }:=by
  obtain ⟨κ,tg,sv,hR,hL⟩:=h.st;exact ⟨⟨κ,tg,sv,R_heap hR rfl rfl rfl rfl,hL⟩,h.size,h.defers,h.par⟩
 refine rgn_anyE hr (egB l) (fun i o j ho hb => ?_) (fun i o e ho he hb=>(hat i o ho).1 e he hb) (fun i o ho hg => ?_) (Region.noSelect_spec hsel) (fun c a w h=>by cases h.1) (fun a w h=>⟨rfl,hfin a w h⟩) _ _ a _ (by simp) (fun j k hb hl => ?_) ?_ ((hini a _ hR').congr fun j _ => ?_)
 ·rw [hbef] at hb ⊢;rcases (hat i o ho).2 j hb with h1|h1
  ·exact .inl h1
  ·right;simp only [egP,Bool.and_eq_true,decide_eq_true_eq] at h1;obtain ⟨⟨h3,h2⟩,h5⟩:=h1;refine ⟨h2,egM_bit h3,fun oj hoj e he hb => ?_⟩;have e1:l[j]?=some oj:=by simpa using hoj
   have e2:l[i]?=some o:=by simpa using ho
   rw [e1,e2] at h5;simp only [List.all_eq_true] at h5;have:=h5 e (by simpa using he);rw [hb] at this;simp only [Bool.not_true,Bool.false_or,List.any_eq_true,Bool.and_eq_true,Bool.or_eq_true,beq_iff_eq] at this;obtain ⟨e',k1,k2,k3⟩:=this;exact ⟨e',by simpa using k1,k2,k3⟩
 ·have e2:l[i]?=some o:=by simpa using ho
  simp only [egB,e2,Bool.and_eq_true,List.all_eq_true] at hg;obtain ⟨⟨g1,g2⟩,g3⟩:=hg;refine ⟨g1,by simpa using g2,fun j oj hoj hne hno hno' => ?_⟩;have hm:(oj,j)∈l.zipIdx:=by rw [List.mem_zipIdx_iff_getElem?];simpa using hoj
  have:=g3 (oj,j) hm;simp only [Bool.or_eq_true,beq_iff_eq,List.any_eq_true,Bool.and_eq_true] at this;rcases this with ((h1|⟨e,h1,h2,h3⟩)|⟨e,h1,h2,h3⟩)|h1
  ·exact absurd h1 hne
  ·exact absurd h3 (hno e (by simpa using h1) h2)
  ·exact absurd h3 (hno' e (by simpa using h1) h2)
  ·exact h1
 ·simp [Array.getD_eq_getD_getElem?,Array.getElem?_replicate] at hl;split at hl<;>simp at hl
 ·exact Nat.le_trans (List.length_filter_le _ _) (by simp)
 ·simp only [Array.getD_eq_getD_getElem?,Array.getElem?_replicate];split<;>rfl
theorem region_draw {befs:List Nat} (hm:P.follows .mixedOrders=true) (hD:okD l befs=true) (hchk:chkOps P sigs N D0l hid hints 0 l []=some rs) (hok:okRg np N D0l rs (befD befs) hid=true) (hWo:Wops P rs rs [] s0 K)
  (hQ:∀s a w,K s->RD np px ac κ0 w0 N (gt (aftR N D0l rs)) s a w->Q .normal a w) (h:RD np px ac κ0 w0 N (gt D0l) s0 a w):(Code.region id l.toArray true).wp P Q a w:=
 Code.wp_mono (Q:=fun e a w=>e = .normal/\Q .normal a w) (fun e a w h=>by obtain ⟨rfl,h⟩:=h;exact h) (wp_region_any hm (region_any hD hchk hok hWo hQ h))
end
end Go.Fw
namespace Go.Fw
def Wk (T T':TT):Prop:=T'=T\/(∃ag cs cs',T = .val ag cs/\T' = .val ag cs'/\CT.les cs cs'=true)\/∃cs cs',T = .box cs/\T' = .box cs'/\CT.les cs cs'=true
theorem les_at:∀{cs cs':List CT},CT.les cs cs'=true->∀{k:Nat} {c':CT},cs'[k]?=some c'->∃c,cs[k]?=some c/\c.le c'=true
 | [],[],_,k,c',h=>by simp at h
 | c::cs,e::cs',h,0,c',hk=>by
  simp only [CT.les,Bool.and_eq_true] at h;simp only [List.getElem?_cons_zero,Option.some.injEq] at hk;subst hk;exact ⟨c,rfl,h.1⟩
 | c::cs,e::cs',h,k+1,c',hk=>by
  simp only [CT.les,Bool.and_eq_true] at h;simp only [List.getElem?_cons_succ] at hk ⊢;exact les_at h.2 hk
 | [],_::_,h,_,_,_=>by simp [CT.les] at h
 | _::_,[],h,_,_,_=>by simp [CT.les] at h
theorem Pins_le {ac:Nat->Nat->Value} {cs cs':List CT} {get:Nat->Value} (hl:CT.les cs cs'=true) (h:Pins ac cs get):Pins ac cs' get:=by
 intro k j c e hk;obtain ⟨c0,h1,h2⟩:=les_at hl hk;cases c0 with
 | d=>simp [CT.le] at h2
 | sl m e0=>
  cases m with
  | own p=>
   simp only [CT.le,Bool.and_eq_true,Bool.or_eq_true,decide_eq_true_eq] at h2;rcases h2.1 with h3|h3
   ·cases h3
   ·subst h3;exact h k j c e0 h1
  | ro S=>simp [CT.le] at h2
  | dead=>simp [CT.le] at h2
section
variable {ac:Nat->Nat->Value} {κ0 κ:Col} {w0 w:World} {N:Nat} {tg tg':Nat->TT} {sv:Nat->AV} {tm:Nat->Value}
theorem Wk.rg {T T':TT} (h:Wk T T') (w:World) (x:Value):Go.Fw.rg w T' x=Go.Fw.rg w T x/\Go.Fw.rb T' x=Go.Fw.rb T x:=by
 rcases h with rfl|⟨ag,cs,cs',rfl,rfl,_⟩|⟨cs,cs',rfl,rfl,_⟩
 ·exact ⟨rfl,rfl⟩
 ·exact ⟨by funext k;simp [Go.Fw.rg],rfl⟩
 ·refine ⟨by funext k;cases x<;>first
   | rfl
   | (rename_i o;cases o<;>rfl),by cases x<;>first
   | rfl
   | (rename_i o;cases o<;>rfl)⟩
theorem TR_tg {t:Nat} {T:TT} (hw:∀t,Wk (tg t) (tg' t)) (h:TR ac κ w tg sv tm t T):TR ac κ w tg' sv tm t T:=by
 cases T with
 | dead=>trivial
 | val ag cs=>simpa only [TR] using h
 | box cs=>simpa only [TR] using h
 | tup ws cs=>simpa only [TR] using h
 | alias ag cs r sk off S=>
  simp only [TR] at h ⊢;rw [((hw r).rg w (tm r)).1,((hw r).rg w (tm r)).2];exact h
 | ptr r sk off S=>
  simp only [TR] at h ⊢;rw [((hw r).rg w (tm r)).1,((hw r).rg w (tm r)).2];exact h
theorem R_weak (h:R ac κ0 w0 κ w N tg sv tm) (hw:∀t,Wk (tg t) (tg' t)):R ac κ0 w0 κ w N tg' sv tm:=by
 refine ⟨fun t => ?_,fun t ht => ?_,h.col,h.fr,h.fb,h.nle⟩
 ·have h1:=TR_tg hw (h.tr t);rcases hw t with h2|⟨ag,cs,cs',h2,h3,h4⟩|⟨cs,cs',h2,h3,h4⟩
  ·rw [h2];exact h1
  ·rw [h2] at h1;rw [h3];simp only [TR] at h1 ⊢;obtain ⟨as,vs,g1,g2,g3,g4,g5⟩:=h1;exact ⟨as,vs,g1,g2,by rw [g3,les_length h4],Pins_le h4 g4,RCL_le h4 g5⟩
  ·rw [h2] at h1;rw [h3];simp only [TR] at h1 ⊢;obtain ⟨as,b,g1,g2,g3,g4,g5,g6,g7⟩:=h1;exact ⟨as,b,g1,g2,g3,g4,by rw [<-les_length h4];exact g5,Pins_le h4 g6,RCL_le h4 g7⟩
 ·have h1:=h.out t ht;rcases hw t with h2|⟨ag,cs,cs',h2,_⟩|⟨cs,cs',h2,_⟩
  ·rw [h2,h1]
  ·rw [h1] at h2;cases h2
  ·rw [h1] at h2;cases h2
end
open Classical in
theorem RD.weak2 {np:Nat->Bool} {px:Nat->Value} {ac:Nat->Nat->Value} {κ0:Col} {w0:World} {N:Nat} {D D':Nat->TT} {s:Nat->AV} {a:Act} {w:World} (h:RD np px ac κ0 w0 N D s a w) (h':∀t,D' t = .dead\/Wk (D t) (D' t)):RD np px ac κ0 w0 N D' s a w:=by
 obtain ⟨⟨κ,tg,sv,hR,hL⟩,h2,h3,h4⟩:=h;have each:∀t,D' t≠.dead->D t=tg t/\s t=sv t/\Wk (tg t) (D' t):=by
  intro t ht;rcases h' t with h5|h5
  ·exact absurd h5 ht
  ·rcases hL t with h6|⟨h6,h7⟩
   ·exfalso;rw [h6] at h5;rcases h5 with h5|⟨_,_,_,h5,_⟩|⟨_,_,h5,_⟩
    ·exact ht h5
    ·cases h5
    ·cases h5
   ·exact ⟨h6,h7,by rw [<-h6];exact h5⟩
 refine ⟨⟨κ,fun t=>if D' t = .dead then tg t else D' t,sv,R_weak hR fun t => ?_,fun t => ?_⟩,h2,h3,h4⟩
 ·by_cases ht:D' t = .dead
  ·simp only [if_pos ht];exact .inl rfl
  ·simp only [if_neg ht];exact (each t ht).2.2
 ·by_cases ht:D' t = .dead
  ·exact .inl ht
  ·exact .inr ⟨by simp only [if_neg ht],(each t ht).2.1⟩
end Go.Fw
namespace Go.Fw
def reO (σ:Nat->Nat) (o:Oper):Oper:={ o with after:=o.after.map fun e=>{ e with on:=σ e.on },guard:=o.guard.map fun p=>(σ p.1,p.2) }
def reL (l:List Oper) (n:Nat) (ord σ:Nat->Nat):List Oper:=(List.range n).map fun k=>reO σ (l.getD (ord k) default)
def okP (n:Nat) (ord σ:Nat->Nat):Bool:=(List.range n).all fun k=>decide (ord k<n)&&σ (ord k) == k&&decide (σ k<n)&&ord (σ k) == k
def aftM (l:List Oper):List Nat:=l.map fun o=>o.after.toList.foldl (fun s e=>if Region.binds .any e then s ||| 2 ^ e.on else s) 0
def firstE (m acc:Nat):List Nat->Nat->Nat->Nat
 | [],_,d=>d
 | a::r,i,d=>if m.testBit i && !acc.testBit i&&(a &&& acc == a) then i else firstE m acc r (i+1) d
def firstF (acc:Nat):Nat->Nat->Nat
 | 0,i=>i
 | k+1,i=>if acc.testBit i then firstF acc k (i+1) else i
def ordG (ms:List Nat) (n m:Nat):Nat->Nat->Nat->Nat->Nat->Nat × Nat
 | 0,_,_,c,d=>(c,d)
 | k+1,j,acc,c,d=>forceN (firstF acc n 0) fun f=>forceN (firstE m acc ms 0 f) fun i=>forceN (acc ||| 2 ^ i) fun acc=>forceN (c ||| i*2 ^ (8*j)) fun c=>forceN (d ||| j*2 ^ (8*i)) fun d=>ordG ms n m k (j+1) acc c d
def idG:Nat->Nat
 | 0=>0
 | k+1=>idG k ||| k*2 ^ (8*k)
def dig (c k:Nat):Nat:=(c >>> (8*k)) % 256
def sgm (n d j:Nat):Nat:=if j<n then dig d j else n
section
variable {P:Program} {l:List Oper} {ord σ:Nat->Nat} (h:okP l.length ord σ=true) (hσ:∀j,¬j<l.length->σ j=l.length)
include h
theorem okP_at {k:Nat} (hk:k<l.length):ord k<l.length/\σ (ord k)=k/\σ k<l.length/\ord (σ k)=k:=by
 unfold okP at h;rw [List.all_eq_true] at h;have:=h k (List.mem_range.2 hk);simp only [Bool.and_eq_true,decide_eq_true_eq,beq_iff_eq] at this;exact ⟨this.1.1.1,this.1.1.2,this.1.2,this.2⟩
omit h in
theorem reL_len:(reL l l.length ord σ).length=l.length:=by unfold reL;rw [List.length_map,List.length_range]
theorem reL_at {i:Nat} {o:Oper} (ho:l[i]?=some o):(reL l l.length ord σ)[σ i]?=some (reO σ o):=by
 have hi:=(List.getElem?_eq_some_iff.1 ho).1;obtain ⟨_,_,h3,h4⟩:=okP_at h hi;unfold reL;rw [List.getElem?_map,List.getElem?_range h3,Option.map_some,h4,List.getD_eq_getElem?_getD,ho];rfl
include hσ
theorem reL_yield (tmps:Array Value) (j:Nat):yielded (reL l l.length ord σ).toArray tmps (σ j)=yielded l.toArray tmps j:=by
 unfold yielded;by_cases hj:j<l.length
 ·rw [List.getElem?_toArray,List.getElem?_toArray,reL_at h (List.getElem?_eq_getElem hj),List.getElem?_eq_getElem hj];rfl
 ·rw [List.getElem?_toArray,List.getElem?_toArray,hσ j hj,List.getElem?_eq_none (by rw [reL_len];omega),List.getElem?_eq_none (by omega)]
theorem reL_wpOp {Q:Exit->Act->World->Prop} {i:Nat} (hi:i<l.length) {K:Act->World->Prop} {a:Act} {w:World} (hw:wpOp P (reL l l.length ord σ).toArray Q (σ i) K a w):wpOp P l.toArray Q i K a w:=by
 have ho:=List.getElem?_eq_getElem hi;generalize l[i]=o at ho;have ho':=reL_at h ho;unfold wpOp at hw ⊢;rw [List.getElem?_toArray] at hw ⊢;rw [ho'] at hw;rw [ho];have hwt:Region.wanted (reO σ o) (yielded (reL l l.length ord σ).toArray a.tmps)=Region.wanted o (yielded l.toArray a.tmps):=by
  unfold Region.wanted reO;cases hg:o.guard with
  | none=>rfl
  | some p=>
   simp only [Option.map_some];rw [reL_yield h hσ]
 simp only at hw ⊢;rw [hwt] at hw;exact hw
theorem wpAny_re {Q:Exit->Act->World->Prop}:∀(fuel:Nat) (listed listed':Array Bool) (a:Act) (w:World),listed.size=l.length->listed'.size=l.length->(∀i,i<l.length->listed'.getD (σ i) false=listed.getD i false) ->
  wpAny P .any (reL l l.length ord σ).toArray Q fuel listed' a w->wpAny P .any l.toArray Q fuel listed a w:=by
 have getT:∀(L:Array Bool) (j:Nat),L.size=l.length->j<l.length->L.getD j true=L.getD j false:=by
  intro L j h1 h2;simp only [Array.getD_eq_getD_getElem?];rw [Array.getElem?_eq_getElem (by omega)];rfl
 have rdy:∀(listed listed':Array Bool),listed.size=l.length->listed'.size=l.length->(∀i,i<l.length->listed'.getD (σ i) false=listed.getD i false)->∀i,i<l.length->(σ i∈Region.ready .any (reL l l.length ord σ).toArray listed'↔i∈Region.ready .any l.toArray listed):=by
  intro listed listed' hs hs' hL i hi;have hLe:∀j,listed'.getD (σ j) false=listed.getD j false:=by
   intro j;by_cases hj:j<l.length
   ·exact hL j hj
   ·rw [hσ j hj];simp only [Array.getD_eq_getD_getElem?];rw [Array.getElem?_eq_none (by omega),Array.getElem?_eq_none (by omega)]
  have ho:=List.getElem?_eq_getElem hi;generalize l[i]=o at ho;have ho':=reL_at h ho;rw [mem_ready,mem_ready,List.getElem?_toArray,List.getElem?_toArray,ho,ho',getT _ _ hs' (okP_at h hi).2.2.1,getT _ _ hs hi,hL i hi];constructor
  ·rintro ⟨h1,o1,h2,h3⟩;cases h2;refine ⟨h1,o,rfl,fun e he hb => ?_⟩;have:=h3 { e with on:=σ e.on } (by
    unfold reO
    simp only
    rw [Array.mem_map]
    exact ⟨e,he,rfl⟩) hb
   rw [<-hLe e.on];exact this
  ·rintro ⟨h1,o1,h2,h3⟩;cases h2;refine ⟨h1,_,rfl,fun e he hb => ?_⟩;unfold reO at he;simp only at he;rw [Array.mem_map] at he;obtain ⟨e0,he0,rfl⟩:=he;simp only;rw [hLe];exact h3 e0 he0 hb
 have nil:∀(listed listed':Array Bool),listed.size=l.length->listed'.size=l.length->(∀i,i<l.length->listed'.getD (σ i) false=listed.getD i false)->Region.ready .any l.toArray listed=[]->Region.ready .any (reL l l.length ord σ).toArray listed'=[]:=by
  intro listed listed' hs hs' hL hn;rw [List.eq_nil_iff_forall_not_mem];intro k hk;have hkl:k<l.length:=by
   obtain ⟨_,o,ho,_⟩:=mem_ready.1 hk;rw [List.getElem?_toArray] at ho;have:=(List.getElem?_eq_some_iff.1 ho).1;rwa [reL_len] at this
  obtain ⟨h1,h2,_,_⟩:=okP_at h hkl;rw [<-h2] at hk;have:=(rdy listed listed' hs hs' hL _ h1).1 hk;rw [hn] at this;cases this
 intro fuel;induction fuel with
 | zero=>
  intro listed listed' a w hs hs' hL hw;refine ⟨?_,hw.2⟩;rw [List.eq_nil_iff_forall_not_mem];intro i hi;have hil:i<l.length:=by
   obtain ⟨_,o,ho,_⟩:=mem_ready.1 hi;rw [List.getElem?_toArray] at ho;exact (List.getElem?_eq_some_iff.1 ho).1
  have:=(rdy listed listed' hs hs' hL i hil).2 hi;rw [hw.1] at this;cases this
 | succ fuel ih=>
  intro listed listed' a w hs hs' hL hw;refine ⟨fun hn=>hw.1 (nil listed listed' hs hs' hL hn),fun i hi => ?_⟩;have hil:i<l.length:=by
   obtain ⟨_,o,ho,_⟩:=mem_ready.1 hi;rw [List.getElem?_toArray] at ho;exact (List.getElem?_eq_some_iff.1 ho).1
  refine reL_wpOp h hσ hil (wpOp_mono (fun a w hk=>ih _ _ a w (by simpa using hs) (by simpa using hs') (fun j hj => ?_) hk) (hw.2 _ ((rdy listed listed' hs hs' hL i hil).2 hi)));have e1:(listed'.setIfInBounds (σ i) true).getD (σ j) false=(decide (j=i) || listed'.getD (σ j) false):=by
   simp only [Array.getD_eq_getD_getElem?,Array.getElem?_setIfInBounds];have hi':=(okP_at h hil).2.2.1;by_cases hji:j=i
   ·subst hji;rw [if_pos rfl,if_pos (by omega)];simp
   ·have hne:σ i≠σ j:=by
     intro he;have h1:=(okP_at h hil).2.2.2;have h2:=(okP_at h hj).2.2.2;rw [he,h2] at h1;exact hji h1
    rw [if_neg hne,decide_eq_false hji,Bool.false_or]
  have e2:(listed.setIfInBounds i true).getD j false=(decide (j=i) || listed.getD j false):=by
   simp only [Array.getD_eq_getD_getElem?,Array.getElem?_setIfInBounds];by_cases hji:j=i
   ·subst hji;rw [if_pos rfl,if_pos (by omega)];simp
   ·rw [if_neg (fun h=>hji h.symm),decide_eq_false hji,Bool.false_or]
  rw [e1,e2,hL j hj]
end
section
variable {P:Program} {sigs:FuncId->Option Sig} {N:Nat} {D0l:List TT} {hid:Nat->List Nat} {hints:List Hint} {l:List Oper} {rs:List OpR} {s0:Nat->AV} {np:Nat->Bool} {px:Nat->Value} {K:(Nat->AV)->Prop}
variable {ac:Nat->Nat->Value} {κ0:Col} {w0:World} {a:Act} {w:World} {Q:Exit->Act->World->Prop} {id:Nat}
theorem region_re {befs:List Nat} {ord σ:Nat->Nat} (hp:okP l.length ord σ=true) (hσ:∀j,¬j<l.length->σ j=l.length) (hm:P.follows .mixedOrders=true) (hD:okD (reL l l.length ord σ) befs=true) (hchk:chkOps P sigs N D0l hid hints 0 (reL l l.length ord σ) []=some rs) (hok:okRg np N D0l rs (befD befs) hid=true) (hWo:Wops P rs rs [] s0 K)
  (hQ:∀s a w,K s->RD np px ac κ0 w0 N (gt (aftR N D0l rs)) s a w->Q .normal a w) (h:RD np px ac κ0 w0 N (gt D0l) s0 a w):(Code.region id l.toArray true).wp P Q a w:=by
 refine Code.wp_mono (Q:=fun e a w=>e = .normal/\Q .normal a w) (fun e a w h=>by obtain ⟨rfl,h⟩:=h;exact h) (wp_region_any hm ?_);have hs:(reL l l.length ord σ).toArray.size=l.toArray.size:=by simp [reL_len]
 have:=region_any hD hchk hok hWo hQ h;rw [hs] at this;refine wpAny_re hp hσ _ _ _ a _ (by simp) (by simp) (fun i hi => ?_) this;simp only [Array.getD_eq_getD_getElem?,Array.getElem?_replicate];have:=(okP_at hp hi).2.2.1;rw [if_pos (by simpa using this),if_pos (by simpa using hi)]
end
theorem sgm_out {n d j:Nat} (h:¬j<n):sgm n d j=n:=if_neg h
def ordC (l:List Oper):Nat × Nat:=forceN (egM l) fun m=>ordG (aftM l) l.length m l.length 0 0 0 0
end Go.Fw
namespace Go.Fw
inductive CC where
 | skip
 | rg (rs:List OpR)
 | seq (a b:CC)
 | cond (X:DX) (a b:CC)
 | block (id:Nat) (b:CC)
 | loop (b:CC)
 | exit (id:Nat)
 | ret
inductive Ex where
 | normal
 | exit (id:Nat)
 | ret
def thenX (N:(Nat->AV)->Prop) (Q:Ex->(Nat->AV)->Prop):Ex->(Nat->AV)->Prop
 | .normal,s=>N s
 | e,s=>Q e s
def blockX (id:Nat) (Q:Ex->(Nat->AV)->Prop):Ex->(Nat->AV)->Prop
 | .exit id',s=>if id'=id then Q .normal s else Q (.exit id') s
 | e,s=>Q e s
def rnd (F:(Nat->AV)->(Ex->(Nat->AV)->Prop)->Prop) (Q:Ex->(Nat->AV)->Prop):Nat->(Nat->AV)->Prop
 | 0,_=>False
 | n+1,s=>F s (thenX (rnd F Q n) Q)
def W (P:Program):CC->(Nat->AV)->(Ex->(Nat->AV)->Prop)->Prop
 | .skip,s,Q=>Q .normal s
 | .rg rs,s,Q=>Wops P rs rs [] s (Q .normal)
 | .seq a b,s,Q=>W P a s (thenX (fun s=>W P b s Q) Q)
 | .cond X a b,s,Q=>∃c,X.get s=some (.bool c)/\if c then W P a s Q else W P b s Q
 | .block id b,s,Q=>W P b s (blockX id Q)
 | .loop b,s,Q=>∃n,rnd (W P b) Q n s
 | .exit id,s,Q=>Q (.exit id) s
 | .ret,s,Q=>Q .ret s
structure Out where
 n:Option (List TT)
 ex:List (Nat × List TT)
 rt:List (List TT)
inductive HT where
 | nil
 | rg (h:List Hint)
 | two (a b:HT)
 | one (a:HT)
 | loop (dl:List Nat) (a:HT)
def jnT:TT->TT->TT
 | .val ag cs,.val ag' cs'=>if ag=ag'/\CT.les cs (CT.jns cs cs')=true/\CT.les cs' (CT.jns cs cs')=true then .val ag (CT.jns cs cs') else .dead
 | .box cs,.box cs'=>if CT.les cs (CT.jns cs cs')=true/\CT.les cs' (CT.jns cs cs')=true then .box (CT.jns cs cs') else .dead
 | _,_=>.dead
theorem jnT_l (a b:TT):jnT a b = .dead\/Wk a (jnT a b):=by
 unfold jnT;split
 ·split
  ·rename_i h;exact .inr (.inr (.inl ⟨_,_,_,rfl,rfl,h.2.1⟩))
  ·exact .inl rfl
 ·split
  ·rename_i h;exact .inr (.inr (.inr ⟨_,_,rfl,rfl,h.1⟩))
  ·exact .inl rfl
 ·exact .inl rfl
theorem jnT_r (a b:TT):jnT a b = .dead\/Wk b (jnT a b):=by
 unfold jnT;split
 ·split
  ·rename_i h;obtain ⟨rfl,_,h⟩:=h;exact .inr (.inr (.inl ⟨_,_,_,rfl,rfl,h⟩))
  ·exact .inl rfl
 ·split
  ·rename_i h;exact .inr (.inr (.inr ⟨_,_,rfl,rfl,h.2⟩))
  ·exact .inl rfl
 ·exact .inl rfl
def meetD:List TT->List TT->List TT
 | a::l,b::m=>(if a.beq b then a else jnT a b)::meetD l m
 | _,_=>[]
def meetO:Option (List TT)->Option (List TT)->Option (List TT)
 | some a,some b=>some (meetD a b)
 | some a,none=>some a
 | none,x=>x
def wkB:TT->TT->Bool
 | .val ag cs,.val ag' cs'=>decide (ag=ag')&&CT.les cs cs'
 | .box cs,.box cs'=>CT.les cs cs'
 | _,_=>false
theorem wkB_ok {a b:TT} (h:wkB a b=true):Wk a b:=by
 unfold wkB at h;split at h
 ·rw [Bool.and_eq_true,decide_eq_true_eq] at h;obtain ⟨rfl,h⟩:=h;exact .inr (.inl ⟨_,_,_,rfl,rfl,h⟩)
 ·exact .inr (.inr ⟨_,_,rfl,rfl,h⟩)
 ·cases h
def leD:List TT->List TT->Bool
 | [],_=>true
 | a::l,b::m=>((a.isDead || a.beq b) || wkB b a)&&leD l m
 | a::l,[]=>a.isDead&&leD l []
def leO (Dh:List TT):Option (List TT)->Bool
 | some D'=>leD Dh D'
 | none=>true
theorem meetD_l:∀(l m:List TT) (t:Nat),gt (meetD l m) t = .dead\/Wk (gt l t) (gt (meetD l m) t)
 | [],m,t=>by left;cases m<;>simp [meetD,gt]
 | a::l,[],t=>by left;simp [meetD,gt]
 | a::l,b::m,t=>by
  cases t with
  | zero=>
   simp only [meetD,gt,List.getD_cons_zero];split
   ·exact .inr (.inl rfl)
   ·exact jnT_l a b
  | succ t=>simpa [meetD,gt] using meetD_l l m t
theorem meetD_r:∀(l m:List TT) (t:Nat),gt (meetD l m) t = .dead\/Wk (gt m t) (gt (meetD l m) t)
 | [],m,t=>by left;cases m<;>simp [meetD,gt]
 | a::l,[],t=>by left;simp [meetD,gt]
 | a::l,b::m,t=>by
  cases t with
  | zero=>
   simp only [meetD,gt,List.getD_cons_zero];split
   ·rename_i h;exact .inr (.inl (TT.beq_eq h))
   ·exact jnT_r a b
  | succ t=>simpa [meetD,gt] using meetD_r l m t
theorem leD_at:∀{l m:List TT},leD l m=true->∀t,gt l t = .dead\/Wk (gt m t) (gt l t)
 | [],m,_,t=>by left;simp [gt]
 | a::l,b::m,h,t=>by
  simp only [leD,Bool.and_eq_true,Bool.or_eq_true] at h;cases t with
  | zero=>
   simp only [gt,List.getD_cons_zero];rcases h.1 with (h|h)|h
   ·exact .inl (isDead_eq h)
   ·exact .inr (.inl (TT.beq_eq h))
   ·exact .inr (wkB_ok h)
  | succ t=>simpa [gt] using leD_at h.2 t
 | a::l,[],h,t=>by
  simp only [leD,Bool.and_eq_true] at h;cases t with
  | zero=>simp only [gt,List.getD_cons_zero];exact .inl (isDead_eq h.1)
  | succ t=>simpa [gt] using leD_at h.2 t
def befsOf (l:List Oper):List Nat:=forceN (egM l) fun m=>
 (l.foldl (fun acc o=>acc++[
  let s:=o.after.toList.foldl (fun s e=>if Region.binds .any e then s ||| 2 ^ e.on ||| acc.getD e.on 0 else s) 0
  (List.range acc.length).foldl (fun s j=>if egP l m acc j acc.length then s ||| 2 ^ j else s) s]) [])
def hidOf (l:List Oper) (befs:List Nat) (i:Nat):List Nat:=
 l.zipIdx.flatMap fun p=>if p.2 == i || befD befs i p.2 || befD befs p.2 i then [] else p.1.dst.toList
def hidH (l:List Oper) (befs:List Nat) (hs:List Hint) (i:Nat):List Nat:=hidOf l befs i++(hs.getD i ⟨false,[],[]⟩).hd
def wkT (s:Nat):TT->TT
 | .val ag cs=>.val ag (CT.mapSs (fun S=>if S.contains s then S else S++[s]) cs)
 | .box cs=>.box (CT.mapSs (fun S=>if S.contains s then S else S++[s]) cs)
 | T=>T
def wkD:List Nat->List TT->List TT
 | [],D=>D
 | x::l,D=>wkD l (if Nat.ble 7000000000 x then D.set ((x-7000000000) / 4) (wkT ((x-7000000000) % 4) (gt D ((x-7000000000) / 4))) else D)
def deadAt (dl:List Nat) (D:List TT):List TT:=wkD dl (D.zipIdx.map fun p=>if dl.contains p.2 then .dead else p.1)
def dropD (hs:List Hint) (D:List TT):List TT:=match hs with
 | h::_=>match h.hd with
  | x::_=>bif Nat.ble 8589934592 x then D.zipIdx.map fun p=>bif x.testBit (33+p.2) then .dead else p.1 else D
  | []=>D
 | []=>D
def undD (hs:List Hint):List Hint:=match hs with
 | h::l=>match h.hd with
  | x::m=>bif Nat.ble 8589934592 x then ⟨h.al,h.tk,m⟩::l else h::l
  | []=>h::l
 | []=>[]
theorem dropD_at (hs:List Hint) (D:List TT) (t:Nat):gt (dropD hs D) t = .dead\/Wk (gt D t) (gt (dropD hs D) t):=by
 unfold dropD;split;case h_2=>exact .inr (.inl rfl)
 case h_1 h _=>
 split;case h_2=>exact .inr (.inl rfl)
 case h_1 x _ _=>
 cases Nat.ble 8589934592 x with
 | false=>exact .inr (.inl rfl)
 | true=>
  simp only [cond_true];unfold gt;rw [List.getD_eq_getElem?_getD,List.getElem?_map,List.getElem?_zipIdx,List.getD_eq_getElem?_getD];cases D[t]? with
  | none=>left;rfl
  | some T=>
   simp only [Option.map_some,Nat.zero_add,Option.getD_some];cases x.testBit (33+t) with
   | true=>exact .inl rfl
   | false=>exact .inr (.inl rfl)
def chkDr (P:Program) (sigs:FuncId->Option Sig) (np:Nat->Bool) (N:Nat) (hs:List Hint) (l:List Oper) (D:List TT):Option (CC × Out):=
 match chkOps P sigs N D (hidH l (befsOf l) hs) hs 0 l [] with
 | some rs=>if P.follows .mixedOrders&&okD l (befsOf l)&&okRg np N D rs (befD (befsOf l)) (hidH l (befsOf l) hs) then some (.rg rs,⟨some (aftR N D rs),[],[]⟩) else none
 | none=>none
def chkC (P:Program) (sigs:FuncId->Option Sig) (np:Nat->Bool) (N:Nat):HT->Code->List TT->Option (CC × Out)
 | _,.skip,D=>some (.skip,⟨some D,[],[]⟩)
 | h,.region _ ops draw,D=>
  let hs:=match h with
   | .rg hs=>hs
   | _=>[]
  fTs (dropD hs D) fun D=>
  if draw then forceN (ordC ops.toList).1 fun c=>if c == idG ops.toList.length then chkDr P sigs np N (undD hs) ops.toList D else forceN (ordC ops.toList).2 fun d=>
   if okP ops.toList.length (dig c) (sgm ops.toList.length d) then chkDr P sigs np N (undD hs) (reL ops.toList ops.toList.length (dig c) (sgm ops.toList.length d)) D else none
  else match chkOps P sigs N D (fun _=>[]) (undD hs) 0 ops.toList [] with
   | some rs=>if okRg np N D rs (fun j i=>decide (j<i)) (fun _=>[]) then some (.rg rs,⟨some (aftR N D rs),[],[]⟩) else none
   | none=>none
 | .two ha hb,.seq a b,D=>match chkC P sigs np N ha a D with
  | some (a',o)=>match o.n with
   | none=>some (.seq a' .skip,o)
   | some D'=>fTs D' fun D'=>match chkC P sigs np N hb b D' with
    | some (b',o')=>some (.seq a' b',⟨o'.n,o.ex++o'.ex,o.rt++o'.rt⟩)
    | none=>none
  | none=>none
 | .two ha hb,.cond c a b,D=>match dataX (gt D) c,chkC P sigs np N ha a D,chkC P sigs np N hb b D with
  | some X,some (a',o),some (b',o')=>some (.cond X a' b',⟨meetO o.n o'.n,o.ex++o'.ex,o.rt++o'.rt⟩)
  | _,_,_=>none
 | .one h,.block id b,D=>match chkC P sigs np N h b D with
  | some (b',o)=>some (.block id b',⟨(o.ex.filterMap fun p=>if p.1=id then some p.2 else none).foldl (fun x D=>meetO x (some D)) o.n,o.ex.filter fun p=>p.1 != id,o.rt⟩)
  | none=>none
 | .loop dl h,.loop b,D=>fTs (deadAt dl D) fun Dh=>match chkC P sigs np N h b Dh with
  | some (b',o)=>if leD Dh D&&leO Dh o.n then some (.loop b',⟨none,o.ex,o.rt⟩) else none
  | none=>none
 | _,.exit id,D=>some (.exit id,⟨none,[(id,D)],[]⟩)
 | _,.ret,D=>some (.ret,⟨none,[],[D]⟩)
 | _,_,_=>none
end Go.Fw
namespace Go.Fw
section
variable {P:Program} {sigs:FuncId->Option Sig} {np:Nat->Bool} {N:Nat} {px:Nat->Value} {ac:Nat->Nat->Value} {κ0:Col} {w0:World}
def PostX (np:Nat->Bool) (px:Nat->Value) (ac:Nat->Nat->Value) (κ0:Col) (w0:World) (N:Nat) (out:Out) (Q:Ex->(Nat->AV)->Prop):Exit->Act->World->Prop
 | .normal,a,w=>∃s D,out.n=some D/\Q .normal s/\RD np px ac κ0 w0 N (gt D) s a w
 | .exit id,a,w=>∃s D,(id,D)∈out.ex/\Q (.exit id) s/\RD np px ac κ0 w0 N (gt D) s a w
 | .ret,a,w=>∃s D,D∈out.rt/\Q .ret s/\RD np px ac κ0 w0 N (gt D) s a w
 | _,_,_=>False
theorem meetO_l {x y:Option (List TT)} {D:List TT} (h:x=some D) {s:Nat->AV} {a:Act} {w:World} (hR:RD np px ac κ0 w0 N (gt D) s a w):∃D',meetO x y=some D'/\RD np px ac κ0 w0 N (gt D') s a w:=by
 subst h;cases y with
 | none=>exact ⟨D,rfl,hR⟩
 | some E=>exact ⟨_,rfl,hR.weak2 (meetD_l D E)⟩
theorem meetO_r {x y:Option (List TT)} {D:List TT} (h:y=some D) {s:Nat->AV} {a:Act} {w:World} (hR:RD np px ac κ0 w0 N (gt D) s a w):∃D',meetO x y=some D'/\RD np px ac κ0 w0 N (gt D') s a w:=by
 subst h;cases x with
 | none=>exact ⟨D,rfl,hR⟩
 | some E=>exact ⟨_,rfl,hR.weak2 (meetD_r E D)⟩
theorem fold_l:∀{l:List (List TT)} {x:Option (List TT)} {D:List TT},x=some D->∀{s:Nat->AV} {a:Act} {w:World},RD np px ac κ0 w0 N (gt D) s a w->∃D',l.foldl (fun x D=>meetO x (some D)) x=some D'/\RD np px ac κ0 w0 N (gt D') s a w
 | [],x,D,h,s,a,w,hR=>⟨D,by simpa using h,hR⟩
 | E::l,x,D,h,s,a,w,hR=>by
  obtain ⟨D',h1,h2⟩:=meetO_l (y:=some E) h hR;exact fold_l (l:=l) h1 h2
theorem fold_m:∀{l:List (List TT)} {x:Option (List TT)} {D:List TT},D∈l->∀{s:Nat->AV} {a:Act} {w:World},RD np px ac κ0 w0 N (gt D) s a w->∃D',l.foldl (fun x D=>meetO x (some D)) x=some D'/\RD np px ac κ0 w0 N (gt D') s a w
 | [],x,D,h,_,_,_,_=>by simp at h
 | E::l,x,D,h,s,a,w,hR=>by
  rcases List.mem_cons.1 h with rfl|h
  ·obtain ⟨D',h1,h2⟩:=meetO_r (x:=x) rfl hR;exact fold_l (l:=l) h1 h2
  ·exact fold_m (l:=l) h hR
theorem chkC_ok:∀{C:Code} {h:HT} {D:List TT} {cc:CC} {out:Out},chkC P sigs np N h C D=some (cc,out)->∀{s:Nat->AV} {a:Act} {w:World} {Q:Ex->(Nat->AV)->Prop},RD np px ac κ0 w0 N (gt D) s a w->W P cc s Q ->
  C.wp P (PostX np px ac κ0 w0 N out Q) a w:=by
 intro C;induction C with
 | skip=>
  intro h D cc out hc s a w Q hR hW;have hc':chkC P sigs np N h .skip D=some (.skip,⟨some D,[],[]⟩):=by cases h<;>rfl
  rw [hc'] at hc;cases hc;exact wp_skip ⟨s,D,rfl,hW,hR⟩
 | ret=>
  intro h D cc out hc s a w Q hR hW;have hc':chkC P sigs np N h .ret D=some (.ret,⟨none,[],[D]⟩):=by cases h<;>rfl
  rw [hc'] at hc;cases hc;exact wp_ret ⟨s,D,by simp,hW,hR⟩
 | exit id=>
  intro h D cc out hc s a w Q hR hW;have hc':chkC P sigs np N h (.exit id) D=some (.exit id,⟨none,[(id,D)],[]⟩):=by cases h<;>rfl
  rw [hc'] at hc;cases hc;exact wp_exit ⟨s,D,by simp,hW,hR⟩
 | region id ops draw=>
  intro h D cc out hc s a w Q hR hW;obtain ⟨ops⟩:=ops;have hc':∃hs0 hs,(fTs (dropD hs0 D) fun D=>if draw then forceN (ordC ops).1 fun c=>if c == idG ops.length then chkDr P sigs np N hs ops D else forceN (ordC ops).2 fun d=>
   if okP ops.length (dig c) (sgm ops.length d) then chkDr P sigs np N hs (reL ops ops.length (dig c) (sgm ops.length d)) D else none
  else match chkOps P sigs N D (fun _=>[]) hs 0 ops [] with
   | some rs=>if okRg np N D rs (fun j i=>decide (j<i)) (fun _=>[]) then some (CC.rg rs,(⟨some (aftR N D rs),[],[]⟩:Out)) else none
   | none=>none)=some (cc,out):=by
   cases h<;>exact ⟨_,_,hc⟩
  obtain ⟨hs0,hs,hc'⟩:=hc';rw [fTs_eq] at hc'
  replace hR:=hR.weak2 (dropD_at hs0 D)
  split at hc'
  ·rename_i hd;subst hd;rw [forceN_eq] at hc';split at hc'
   ·unfold chkDr at hc';split at hc';case h_2=>cases hc'
    case h_1 rs hrs=>
    split at hc';case isFalse=>cases hc'
    case isTrue hok=>
    cases hc';simp only [Bool.and_eq_true] at hok;exact region_draw hok.1.1 hok.1.2 hrs hok.2 hW (fun s a w hK hR=>⟨s,_,rfl,hK,hR⟩) hR
   ·rw [forceN_eq] at hc';split at hc';case isFalse=>cases hc'
    case isTrue hp=>
    unfold chkDr at hc';split at hc';case h_2=>cases hc'
    case h_1 rs hrs=>
    split at hc';case isFalse=>cases hc'
    case isTrue hok=>
    cases hc';simp only [Bool.and_eq_true] at hok;exact region_re hp (fun j hj=>sgm_out hj) hok.1.1 hok.1.2 hrs hok.2 hW (fun s a w hK hR=>⟨s,_,rfl,hK,hR⟩) hR
  ·rename_i hd;have hd':draw=false:=by simpa using hd
   subst hd';split at hc';case h_2=>cases hc'
   case h_1 rs hrs=>
   split at hc';case isFalse=>cases hc'
   case isTrue hok=>
   cases hc';exact region_list hrs hok hW (fun s a w hK hR=>⟨s,_,rfl,hK,hR⟩) hR
 | seq x y ihx ihy=>
  intro h D cc out hc s a w Q hR hW;cases h with
  | two ha hb=>
   simp only [chkC] at hc;split at hc;case h_2=>cases hc
   case h_1 a' o ha'=>
   split at hc
   ·rename_i hn;cases hc;simp only [W] at hW;refine wp_seq (wp_mono (ihx ha' hR hW) fun e a w hp => ?_);cases e with
    | normal=>obtain ⟨s,D,h1,_⟩:=hp;rw [hn] at h1;cases h1
    | exit id=>exact hp
    | ret=>exact hp
    | goto l=>exact hp
    | panic c=>exact hp
    | outgrown=>exact hp
   ·rename_i D' hn;rw [fTs_eq] at hc;split at hc;case h_2=>cases hc
    case h_1 b' o' hb'=>
    cases hc;simp only [W] at hW;refine wp_seq (wp_mono (ihx ha' hR hW) fun e a w hp => ?_);cases e with
    | normal=>
     obtain ⟨s,D1,h1,h2,h3⟩:=hp;rw [hn] at h1;cases h1;refine wp_mono (ihy hb' h3 h2) fun e a w hp => ?_
     cases e with
     | normal=>exact hp
     | exit id=>obtain ⟨s,D,h1,h2,h3⟩:=hp;exact ⟨s,D,List.mem_append.2 (.inr h1),h2,h3⟩
     | ret=>obtain ⟨s,D,h1,h2,h3⟩:=hp;exact ⟨s,D,List.mem_append.2 (.inr h1),h2,h3⟩
     | goto l=>exact hp
     | panic c=>exact hp
     | outgrown=>exact hp
    | exit id=>obtain ⟨s,D,h1,h2,h3⟩:=hp;exact ⟨s,D,List.mem_append.2 (.inl h1),h2,h3⟩
    | ret=>obtain ⟨s,D,h1,h2,h3⟩:=hp;exact ⟨s,D,List.mem_append.2 (.inl h1),h2,h3⟩
    | goto l=>exact hp
    | panic c=>exact hp
    | outgrown=>exact hp
  | _=>simp [chkC] at hc
 | cond c x y ihx ihy=>
  intro h D cc out hc s a w Q hR hW;cases h with
  | two ha hb=>
   simp only [chkC] at hc;split at hc;case h_2=>cases hc
   case h_1 X a' o b' o' hX ha' hb'=>
   cases hc;simp only [W] at hW;obtain ⟨cv,hcv,hW⟩:=hW;obtain ⟨κ,tg,sv,hR0,hL⟩:=hR.st;obtain ⟨e1,_⟩:=dataX_ok hR0 hL hX hcv;refine wp_cond e1 ?_;cases cv with
   | true=>
    simp only [if_true] at hW ⊢;refine wp_mono (ihx ha' hR hW) fun e a w hp => ?_
    cases e with
    | normal=>obtain ⟨s,D,h1,h2,h3⟩:=hp;obtain ⟨D',h4,h5⟩:=meetO_l (y:=o'.n) h1 h3;exact ⟨s,D',h4,h2,h5⟩
    | exit id=>obtain ⟨s,D,h1,h2,h3⟩:=hp;exact ⟨s,D,List.mem_append.2 (.inl h1),h2,h3⟩
    | ret=>obtain ⟨s,D,h1,h2,h3⟩:=hp;exact ⟨s,D,List.mem_append.2 (.inl h1),h2,h3⟩
    | goto l=>exact hp
    | panic c=>exact hp
    | outgrown=>exact hp
   | false=>
    simp only [Bool.false_eq_true,if_false] at hW ⊢;refine wp_mono (ihy hb' hR hW) fun e a w hp => ?_
    cases e with
    | normal=>obtain ⟨s,D,h1,h2,h3⟩:=hp;obtain ⟨D',h4,h5⟩:=meetO_r (x:=o.n) h1 h3;exact ⟨s,D',h4,h2,h5⟩
    | exit id=>obtain ⟨s,D,h1,h2,h3⟩:=hp;exact ⟨s,D,List.mem_append.2 (.inr h1),h2,h3⟩
    | ret=>obtain ⟨s,D,h1,h2,h3⟩:=hp;exact ⟨s,D,List.mem_append.2 (.inr h1),h2,h3⟩
    | goto l=>exact hp
    | panic c=>exact hp
    | outgrown=>exact hp
  | _=>simp [chkC] at hc
 | block id x ih=>
  intro h D cc out hc s a w Q hR hW;cases h with
  | one h=>
   simp only [chkC] at hc;split at hc;case h_2=>cases hc
   case h_1 b' o hb'=>
   cases hc;simp only [W] at hW;refine wp_block (wp_mono (ih hb' hR hW) fun e a w hp => ?_);cases e with
   | normal=>
    obtain ⟨s,D,h1,h2,h3⟩:=hp;obtain ⟨D',h4,h5⟩:=fold_l (l:=o.ex.filterMap fun p=>if p.1=id then some p.2 else none) h1 h3;exact ⟨s,D',h4,h2,h5⟩
   | exit id'=>
    obtain ⟨s,D,h1,h2,h3⟩:=hp;simp only [blockX] at h2;simp only [Exit.inBlock];by_cases hid:id'=id
    ·rw [if_pos hid] at h2 ⊢;obtain ⟨D',h4,h5⟩:=fold_m (l:=o.ex.filterMap fun p=>if p.1=id then some p.2 else none) (x:=o.n) (D:=D) (List.mem_filterMap.2 ⟨(id',D),h1,by simp [hid]⟩) h3;exact ⟨s,D',h4,h2,h5⟩
    ·rw [if_neg hid] at h2 ⊢;exact ⟨s,D,List.mem_filter.2 ⟨h1,by simpa using hid⟩,h2,h3⟩
   | ret=>exact hp
   | goto l=>exact hp
   | panic c=>exact hp
   | outgrown=>exact hp
  | _=>simp [chkC] at hc
 | loop x ih=>
  intro h D cc out hc s a w Q hR hW;cases h with
  | loop dl h=>
   simp only [chkC] at hc;rw [fTs_eq] at hc;split at hc;case h_2=>cases hc
   case h_1 b' o hb'=>
   split at hc;case isFalse=>cases hc
   case isTrue hle=>
   cases hc;simp only [Bool.and_eq_true] at hle;simp only [W] at hW;obtain ⟨n,hW⟩:=hW;refine wp_loop_rounds n ?_;have key:∀n s a w,RD np px ac κ0 w0 N (gt (deadAt dl D)) s a w->rnd (W P b') Q n s->Code.rounds P x (PostX np px ac κ0 w0 N ⟨none,o.ex,o.rt⟩ Q) n a w:=by
    intro n;induction n with
    | zero=>intro s a w _ h;exact h
    | succ n ihn=>
     intro s a w hR hr;rw [rounds_succ];refine wp_mono (ih hb' hR hr) fun e a w hp => ?_
     cases e with
     | normal=>
      obtain ⟨s,D1,h1,h2,h3⟩:=hp;have h4:=hle.2;rw [h1] at h4;exact ihn s a w (h3.weak2 (leD_at h4)) h2
     | exit id=>exact hp
     | ret=>exact hp
     | goto l=>exact hp
     | panic c=>exact hp
     | outgrown=>exact hp
   exact key n s a w (hR.weak2 (leD_at hle.1)) hW
  | _=>simp [chkC] at hc
 | _=>intro h D cc out hc;cases h<;>simp [chkC] at hc
end
end Go.Fw
namespace Go.Fw
def pin1 (i k:Nat):CT->CT
 | .sl (.own _) e=>.sl (.own (some (i,k))) e
 | c=>c
def pinCs (i:Nat) (cs:List CT):List CT:=cs.mapIdx fun k c=>pin1 i k c
def inTag (i:Nat):PM->TT
 | .rd ag cs=>.val ag (CT.roizes [i] cs)
 | .rb ag cs=>.val ag (CT.roizes [FB] cs)
 | .tk ag cs=>.val ag cs
 | .mt ag cs=>.val ag (pinCs i cs)
 | .mp cs=>.box cs
def inD (sg:Sig) (N:Nat):List TT:=sg.ps.mapIdx inTag++List.replicate (N-sg.ps.length) .dead
def inS (args:List (List A)) (t:Nat):AV:=
 match args[t]? with
 | some as=>.v as []
 | none=>.n
def pmOk:PM->Bool
 | .rd _ _=>true
 | .rb _ _=>true
 | .tk _ cs=>noPin cs
 | .mt _ cs=>noPin cs
 | .mp cs=>noPin cs
def acOf (sg:Sig) (xs:List Value) (i k:Nat):Value:=
 match sg.ps[i]?,xs[i]? with
 | some (.mt ag _),some x=>((cellsOf ag x).getD []).getD k undef
 | _,_=>undef
theorem pin1_unpin (i k:Nat) (c:CT):(pin1 i k c).unpin=c.unpin:=by
 cases c with
 | d=>rfl
 | sl m e=>cases m<;>rfl
theorem pinCs_unpins (i:Nat) (cs:List CT):CT.unpins (pinCs i cs)=CT.unpins cs:=by
 have key:∀(cs:List CT) (f:Nat->CT->CT),(∀k c,(f k c).unpin=c.unpin)->CT.unpins (cs.mapIdx f)=CT.unpins cs:=by
  intro cs;induction cs with
  | nil=>intro f _;rfl
  | cons c cs ih=>
   intro f hf;rw [List.mapIdx_cons];simp only [CT.unpins,hf];rw [ih (fun k=>f (k+1)) fun k c=>hf (k+1) c]
 exact key cs _ (pin1_unpin i)
theorem pinCs_length (i:Nat) (cs:List CT):(pinCs i cs).length=cs.length:=by simp [pinCs]
theorem inD_lt {sg:Sig} {N t:Nat} {pm:PM} (h:sg.ps[t]?=some pm):gt (inD sg N) t=inTag t pm:=by
 have hl:=(List.getElem?_eq_some_iff.1 h).1;unfold gt inD;rw [List.getD_eq_getElem?_getD,List.getElem?_append_left (by simpa using hl),List.getElem?_mapIdx,h];rfl
theorem inD_ge {sg:Sig} {N t:Nat} (h:sg.ps.length<=t):gt (inD sg N) t = .dead:=by
 unfold gt inD;rw [List.getD_eq_getElem?_getD,List.getElem?_append_right (by simpa using h),List.getElem?_replicate];split<;>rfl
theorem roizes_nth (S:List Nat):∀{cs:List CT} {k:Nat} {p:Option (Nat × Nat)} {e:List CT},(CT.roizes S cs)[k]?≠some (.sl (.own p) e)
 | [],k,p,e=>by simp [CT.roizes]
 | c::cs,0,p,e=>by
  cases c<;>simp [CT.roizes,CT.roize]
 | c::cs,k+1,p,e=>by
  simp only [CT.roizes,List.getElem?_cons_succ];exact roizes_nth S
section
variable {sg:Sig} {κ:Col} {w:World} {xs:List Value} {args:List (List A)} {N:Nat}
theorem init_R (hcol:∀b,w.heap.size<=b->κ b=none) (hxl:xs.length=sg.ps.length) (hal:args.length=sg.ps.length)
  (hargs:∀i pm x as,sg.ps[i]?=some pm->xs[i]?=some x->args[i]?=some as->ArgR κ w i x as pm) (hN:sg.ps.length<=N) (hNF:N<=FB) (hpm:sg.ps.all pmOk=true) :
  R (acOf sg xs) κ w κ w N (gt (inD sg N)) (inS args) (fun t=>xs.getD t undef):=by
 refine ⟨fun t => ?_,fun t ht=>inD_ge (by omega),hcol,⟨Nat.le_refl _,fun b _ h=>⟨h,rfl⟩,rfl,rfl,rfl⟩,fun b q h=>⟨h,Same.refl w b⟩,hNF⟩;cases hp:sg.ps[t]? with
 | none=>rw [inD_ge (List.getElem?_eq_none_iff.1 hp)];simp [TR]
 | some pm=>
  have hl:=(List.getElem?_eq_some_iff.1 hp).1;have hx:xs[t]?=some xs[t]:=by simp [hxl,hl]
  have ha:args[t]?=some args[t]:=by simp [hal,hl]
  have hA:=hargs t pm _ _ hp hx ha;have hsv:inS args t = .v args[t] []:=by unfold inS;rw [ha]
  have htm:xs.getD t undef=xs[t]:=by rw [List.getD_eq_getElem?_getD,hx];rfl
  have hpk:pmOk pm=true:=(List.all_eq_true.1 hpm) pm (List.mem_of_getElem? hp);rw [inD_lt hp];cases pm with
  | rd ag cs=>
   obtain ⟨vs,h1,h2,h3⟩:=hA;simp only [inTag,TR,hsv,htm];exact ⟨_,vs,rfl,h1,by rw [roizes_length];exact h2,fun k j c e hc=>absurd hc (roizes_nth _),h3⟩
  | rb ag cs=>
   obtain ⟨vs,h1,h2,h3⟩:=hA;simp only [inTag,TR,hsv,htm];exact ⟨_,vs,rfl,h1,by rw [roizes_length];exact h2,fun k j c e hc=>absurd hc (roizes_nth _),h3⟩
  | tk ag cs=>
   obtain ⟨vs,h1,h2,h3⟩:=hA;simp only [inTag,TR,hsv,htm];exact ⟨_,vs,rfl,h1,h2,noPin_pins hpk,h3⟩
  | mt ag cs=>
   obtain ⟨vs,h1,h2,h3⟩:=hA;simp only [inTag,TR,hsv,htm];refine ⟨_,vs,rfl,h1,by rw [pinCs_length];exact h2,fun k j c e hc => ?_,?_⟩
   ·have hjc:j=t/\c=k:=by
     unfold pinCs at hc;rw [List.getElem?_mapIdx] at hc;cases hck:cs[k]? with
     | none=>rw [hck] at hc;simp at hc
     | some c0=>
      rw [hck] at hc;simp only [Option.map_some,Option.some.injEq] at hc;cases c0 with
      | d=>simp [pin1] at hc
      | sl m e0=>
       cases m with
       | own p=>simp only [pin1,CT.sl.injEq,Md.own.injEq,Option.some.injEq,Prod.mk.injEq] at hc;exact ⟨hc.1.1.symm,hc.1.2.symm⟩
       | ro S=>simp [pin1] at hc
       | dead=>simp [pin1] at hc
    obtain ⟨rfl,rfl⟩:=hjc;unfold acOf;rw [hp,hx];simp only [h1];rfl
   ·have:=RCL_unpin.2 h3;rw [<-pinCs_unpins t] at this;exact RCL_unpin.1 this
  | mp cs=>
   obtain ⟨b,h1,h2,h3,h4,h5⟩:=hA;simp only [inTag,TR,hsv,htm];exact ⟨_,b,rfl,h1,h2,h3,h4,noPin_pins hpk,h5⟩
end
end Go.Fw
namespace Go.Fw
structure Ent where
 r:Nat
 lo:Nat
 n:Nat
 d:Nat
 b:Nat
def Ent.hit (e:Ent) (r j:Nat):Bool:=(e.r == r)&&decide (e.lo<=j)&&decide (j<e.lo+e.n)
def exF (es:List Ent) (zs:List (Nat × Nat)):Pl->Option Pl
 | (r,j::q)=>(es.find? fun e=>e.hit r j).map fun e=>(e.d,(e.b+(j-e.lo))::q)
 | (r,[])=>(zs.find? fun p=>p.1 == r).map fun p=>(p.2,[])
def exC (κ0 κ:Col) (F:Pl->Option Pl):Col:=fun b=>
 match κ0 b with
 | some (r,q)=>if r=FB then some (FB,q) else (κ b).bind F
 | none=>(κ b).bind F
def entOk (es:List Ent) (t off n d base:Nat):Bool:=(List.range n).all fun k=>match es.find? (fun e=>e.hit t (off+k)) with
 | some e=>(e.d == d)&&(e.b+(off+k-e.lo) == base+k)
 | none=>false
def srcOk (sg:Sig) (es:List Ent) (zs:List (Nat × Nat)) (cs:List CT):Bool:=(CT.srcss cs).all fun r=>(match sg.ps[r]? with
 | some pm=>!pm.mut
 | none=>false)&&es.all (fun e=>e.r != r)&&zs.all (fun z=>z.1 != r)
section
variable {ac:Nat->Nat->Value} {κ0 κ:Col} {w0 w:World} {N:Nat} {tg:Nat->TT} {sv:Nat->AV} {tm:Nat->Value} {es:List Ent} {zs:List (Nat × Nat)} {sg:Sig}
theorem exC_at (h:R ac κ0 w0 κ w N tg sv tm) {F:Pl->Option Pl} {b r:Nat} {q:List Nat} (hk:κ b=some (r,q)) (hr:r≠FB):exC κ0 κ F b=F (r,q):=by
 unfold exC;split
 ·rename_i r0 q0 h0;split
  ·rename_i he;subst he;have:=(h.fb b q0 h0).1;rw [hk] at this;cases this;exact absurd rfl hr
  ·rw [hk];rfl
 ·rw [hk];rfl
theorem exC_cases {F:Pl->Option Pl} {b r:Nat} {q:List Nat} (hk:exC κ0 κ F b=some (r,q)):(r=FB/\κ0 b=some (FB,q))\/∃r0 q0,κ b=some (r0,q0)/\F (r0,q0)=some (r,q):=by
 unfold exC at hk;have main:(κ b).bind F=some (r,q)->∃r0 q0,κ b=some (r0,q0)/\F (r0,q0)=some (r,q):=fun h=>by
  simp only [Option.bind_eq_some_iff] at h;obtain ⟨⟨r0,q0⟩,h1,h2⟩:=h;exact ⟨r0,q0,h1,h2⟩
 split at hk
 ·rename_i r0 q0 h0;split at hk
  ·rename_i he;subst he;cases hk;exact .inl ⟨rfl,h0⟩
  ·exact .inr (main hk)
 ·exact .inr (main hk)
theorem srcOk_at {cs:List CT} (h:srcOk sg es zs cs=true) {r:Nat} (hr:r∈CT.srcss cs):(∃pm,sg.ps[r]?=some pm/\pm.mut=false)/\(∀e,e∈es->e.r≠r)/\∀z,z∈zs->z.1≠r:=by
 have:=(List.all_eq_true.1 h) r hr;simp only [Bool.and_eq_true,List.all_eq_true,bne_iff_ne] at this;refine ⟨?_,this.1.2,this.2⟩;have h1:=this.1.1;split at h1
 ·rename_i pm hpm;exact ⟨pm,hpm,by simpa using h1⟩
 ·cases h1
def GoodS (sg:Sig) (es:List Ent) (zs:List (Nat × Nat)) (S:List Nat):Prop:=∀r,r∈S->r<sg.ps.length/\(∀e,e∈es->e.r≠r)/\∀z,z∈zs->z.1≠r
theorem exC_ro (h:R ac κ0 w0 κ w N tg sv tm) (hN:sg.ps.length<=N) {S:List Nat} (hS:GoodS sg es zs S) {b:Nat} (hb:okro κ w S b):okro (exC κ0 κ (exF es zs)) w S b:=by
 refine ⟨hb.1,fun r p hk => ?_⟩;exfalso;rcases exC_cases hk with ⟨rfl,h0⟩|⟨r0,q0,h1,h2⟩
 ·have h1:=(h.fb b p h0).1;have h2:=(hS _ (hb.2 _ _ h1).1).1;have:=h.nle;omega
 ·have h3:=hS _ (hb.2 _ _ h1).1;cases q0 with
  | nil=>
   simp only [exF,Option.map_eq_some_iff] at h2;obtain ⟨z,hz,_⟩:=h2;have h4:=List.find?_some hz;exact h3.2.2 z (List.mem_of_find?_eq_some hz) (by simpa using h4)
  | cons j q=>
   simp only [exF,Option.map_eq_some_iff] at h2;obtain ⟨e,he,_⟩:=h2;have h4:=List.find?_some he;simp only [Ent.hit,Bool.and_eq_true,beq_iff_eq] at h4;exact h3.2.1 e (List.mem_of_find?_eq_some he) h4.1.1
theorem srcss_good {cs:List CT} (h:srcOk sg es zs cs=true):CT.allSs (GoodS sg es zs) cs:=by
 refine (srcs_allS2 (P:=fun r=>r<sg.ps.length/\(∀e,e∈es->e.r≠r)/\∀z,z∈zs->z.1≠r)).2 fun r hr => ?_
 obtain ⟨⟨pm,h1,_⟩,h2,h3⟩:=srcOk_at h hr;exact ⟨(List.getElem?_eq_some_iff.1 h1).1,h2,h3⟩
theorem row_out (h:R ac κ0 w0 κ w N tg sv tm) (hN:sg.ps.length<=N) {t off d base:Nat} (ht:t≠FB) {cs:List CT} {get get':Nat->Value} {as:List A} (hent:(CT.nowns cs || entOk es t off cs.length d base)=true)
  (hsrc:CT.allSs (GoodS sg es zs) cs) (hg:∀i,i<cs.length->get' (base+i)=get (off+i)) (hr:RCL κ w cs (t,[]) off get as):RCL (exC κ0 κ (exF es zs)) w cs (d,[]) base get' as:=by
 have hro:∀S,GoodS sg es zs S->∀b,okro κ w S b->okro (exC κ0 κ (exF es zs)) w S b/\Same w w b:=fun S hS b hb=>⟨exC_ro h hN hS hb,Same.refl w b⟩
 cases hn:CT.nowns cs with
 | true=>exact RCL_copy hro hn hsrc hg hr
 | false=>
  rw [hn] at hent;simp only [Bool.false_or,entOk,List.all_eq_true] at hent;have:=RCL_moves (f:=id) (p':=(d,[])) (κ':=exC κ0 κ (exF es zs)) (w':=w) (fun S hS b hb=>hro S hS b hb) hsrc (fun i hi b q hb => ?_) hg hr
  ·rwa [mapSs_id] at this
  ·refine ⟨?_,Same.refl w b⟩;simp only [List.nil_append] at hb ⊢;rw [exC_at h hb ht];have h1:=hent i (List.mem_range.2 hi);split at h1
   ·rename_i e he;simp only [Bool.and_eq_true,beq_iff_eq] at h1;simp only [exF,he,Option.map_some,h1.1,h1.2]
   ·cases h1
end
structure RvI where
 reg:Nat
 t:Nat
 off:Nat
 ag:Bool
 cs:List CT
def rvX (P:Program) (D:List TT):ResultVar->Option RvI
 | .tmp t=>match gt D t with
  | .val ag cs=>some ⟨t,t,0,ag,cs⟩
  | .alias ag cs r [] off _=>match (gt D r).cts with
   | some crs=>if off+cs.length<=crs.length then some ⟨t,r,off,ag,(crs.drop off).take cs.length⟩ else none
   | none=>none
  | _=>none
 | .cell a ty=>match gt D a,aggT P ty,P.info? ty with
  | .box cs,some ag,some i=>if i.size=cs.length/\(ag=true\/i.size=1)/\CT.lives cs=true then some ⟨a,a,0,ag,cs⟩ else none
  | _,_,_=>none
def rvXs (P:Program) (D:List TT):List ResultVar->Option (List RvI)
 | []=>some []
 | v::vs=>match rvX P D v,rvXs P D vs with
  | some I,some Is=>some (I::Is)
  | _,_=>none
def getRv (s:Nat->AV):List RvI->Option (List A)
 | []=>some []
 | I::Is=>match getA I.reg s,getRv s Is with
  | some as,some r=>some (as++r)
  | _,_=>none
def rvRun (tmps:Array Value):ResultVar->Sem Value
 | .tmp t=>pure (tmps.getD t undef)
 | .cell a t=>do loadVar t (<-asAddr (tmps.getD a undef))
theorem run_mapMw {α β:Type} {P:Program} {f:α->Sem β} {w:World} {as:Array α} {bs:List β} (h:∀(i:Nat) a,as.toList[i]?=some a->∃b:β,bs[i]?=some b/\(f a).run P w = .ok b w) (hl:bs.length=as.toList.length):(as.mapM f).run P w = .ok bs.toArray w:=by
 rw [@Array.mapM_eq_foldlM Sem α β _ lawfulSem f as,<-Array.foldlM_toList];have key:∀(l:List α) (bs:List β) (acc:Array β),bs.length=l.length->(∀(i:Nat) a,l[i]?=some a->∃b:β,bs[i]?=some b/\(f a).run P w = .ok b w)->(l.foldlM (fun bs a=>bs.push <$> f a) acc:Sem (Array β)).run P w = .ok (acc++bs.toArray) w:=by
  intro l;induction l with
  | nil=>intro bs acc hb _;cases bs with
   | nil=>simp [List.foldlM,run_pure]
   | cons=>simp at hb
  | cons a l ih=>
   intro bs acc hb hl;cases bs with
   | nil=>simp at hb
   | cons b bs=>
    simp only [List.foldlM_cons];obtain ⟨b',h1,h2⟩:=hl 0 a rfl;simp at h1;subst h1;have:(acc.push <$> f a:Sem (Array β)).run P w = .ok (acc.push b) w:=by
     show ((f a) >>= fun b=>pure (acc.push b)).run P w=_;rw [run_ok h2];rfl
    rw [run_ok this,ih bs _ (by simpa using hb) fun i a hi=>by
     obtain ⟨b,h3,h4⟩:=hl (i+1) a (by simpa using hi)
     exact ⟨b,by simpa using h3,h4⟩]
    congr 1;apply Array.ext';simp
 rw [key as.toList bs #[] hl h];congr 1;apply Array.ext';simp
theorem run_loadVar {P:Program} {t:TypeId} {i:TypeInfo} {g:Bool} {b o:Nat} {w:World} (hi:P.info? t=some i) (hg:aggT P t=some g) (h1:g=false->i.size=1)
  (h:Rdb w b o (o+i.size)):∃v,(loadVar t ⟨b,o,none⟩).run P w = .ok v w/\(g=true->v = .agg ((List.range i.size).map fun k=>cellD w b (o+k)).toArray)/\(g=false->v=cellD w b o):=by
 obtain ⟨v,hv,h2,h3⟩:=run_loadAt hi hg h1 h;refine ⟨v,?_,h2,h3⟩;unfold Instr.loadAt at hv;have hs:(Instr.sureAddr (.pointer (some ⟨b,o,none⟩))).run P w = .ok ⟨b,o,none⟩ w:=rfl;rw [run_ok hs] at hv;exact hv
section
variable {P:Program} {ac:Nat->Nat->Value} {κ0 κ:Col} {w0 w:World} {N:Nat} {tg:Nat->TT} {sv s:Nat->AV} {a:Act} {D:List TT}
theorem rv_ok (h:R ac κ0 w0 κ w N tg sv (gm a)) (hL:Le (gt D) s tg sv) {rv:ResultVar} {I:RvI} (hI:rvX P D rv=some I) {as:List A} (hs:getA I.reg s=some as) :
  ∃x vs get,(rvRun a.tmps rv).run P w = .ok x w/\cellsOf I.ag x=some vs/\vs.length=I.cs.length/\I.t<N/\(∀k,k<I.cs.length->get (I.off+k)=vs.getD k undef)/\RCL κ w I.cs (I.t,[]) I.off get as:=by
 have lt:∀t,tg t≠.dead->t<N:=fun t ht=>by
  apply Nat.lt_of_not_le;intro hle;exact ht (h.out t hle)
 obtain ⟨is,hs⟩:=getA_some hs;cases rv with
 | tmp t=>
  simp only [rvX] at hI;split at hI
  ·rename_i ag cs hT;cases hI;obtain ⟨e1,e2⟩:=hL.at hT (by simp);have h1:=h.tr t;rw [e1] at h1;simp only [TR] at h1;obtain ⟨as',vs,g1,g2,g3,_,g5⟩:=h1;rw [e2,hs] at g1;cases g1;exact ⟨gm a t,vs,_,rfl,g2,g3,lt t (by rw [e1];simp),fun k _=>by simp,g5⟩
  ·rename_i ag cs r off S hT;split at hI;case h_2=>cases hI
   case h_1 crs hcr=>
   split at hI;case isFalse=>cases hI
   case isTrue hfit=>
   cases hI;obtain ⟨e1,e2⟩:=hL.at hT (by simp);obtain ⟨hcr',_⟩:=cts_ok hL hcr;have h1:=h.tr t;rw [e1] at h1;simp only [TR] at h1;obtain ⟨as',is',vs,g,ra,row,g1,g2,g3,_,g5,g6,_,_,_,g9,g10,g11,g12⟩:=h1;rw [e2,hs] at g1;cases g1;have hroot:=h.root hcr' g10;cases is with
   | cons=>simp [pcell] at g6
   | nil=>
   simp only [pcell,Option.some.injEq] at g6;subst g6;simp only [lookL,Option.some.injEq] at g11;subst g11;have hrow:=RCL_take cs.length (RCL_drop off hroot);rw [Nat.zero_add] at hrow;refine ⟨gm a t,vs,_,rfl,g2,by simp;omega,lt r (fun hd=>by rw [hd] at hcr';simp [TT.cts] at hcr'),fun k hk => ?_,by rw [g12];exact hrow⟩;simp only [List.length_take,List.length_drop] at hk;exact (g9 k (by omega)).1
  ·cases hI
 | cell t ty=>
  simp only [rvX] at hI;split at hI;case h_2=>cases hI
  case h_1 cs ag i hT hag hi=>
  split at hI;case isFalse=>cases hI
  case isTrue hc=>
  cases hI;obtain ⟨hsz,hag1,hlv⟩:=hc;obtain ⟨e1,e2⟩:=hL.at hT (by simp);have h1:=h.tr t;rw [e1] at h1;simp only [TR] at h1;obtain ⟨as',b,g1,g2,g3,g4,g5,_,g7⟩:=h1;rw [e2,hs] at g1;cases g1;obtain ⟨v,hv,k1,k0⟩:=run_loadVar (P:=P) (w:=w) (b:=b) (o:=0) hi hag (fun hf=>by rcases hag1 with h1|h1<;>simp_all) (by rw [hsz,Nat.zero_add];exact g5.rdb);have hrun:(rvRun a.tmps (.cell t ty)).run P w = .ok v w:=by
   have:a.tmps.getD t undef = .pointer (some ⟨b,0,none⟩):=g2;show (do loadVar ty (<-asAddr (a.tmps.getD t undef)):Sem Value).run P w=_;rw [this];have hs:(asAddr (.pointer (some ⟨b,0,none⟩))).run P w = .ok ⟨b,0,none⟩ w:=rfl;rw [run_ok hs];exact hv
  cases ag with
  | true=>
   refine ⟨v,(List.range i.size).map fun k=>cellD w b k,_,hrun,?_,by simpa using hsz,lt t (by rw [e1];simp),fun k hk => ?_,g7⟩
   ·rw [k1 rfl];simp [cellsOf]
   ·simp only at hk;rw [Nat.zero_add,List.getD_eq_getElem?_getD,List.getElem?_map,List.getElem?_range (by omega)];rfl
  | false=>
   have h1:i.size=1:=by rcases hag1 with h1|h1<;>simp_all
   refine ⟨v,[v],_,hrun,?_,by simp [<-hsz,h1],lt t (by rw [e1];simp),fun k hk => ?_,g7⟩
   ·have hfl:=RCL_flat hlv g7 0 (by omega);have hne:=oneC_ne hfl;rw [k0 rfl];simp only [Nat.add_zero] at hne ⊢;cases hx:cellD w b 0 with
    | agg l=>exact absurd hx (hne l).1
    | tuple l=>exact absurd hx (hne l).2
    | _=>simp [cellsOf]
   ·have:k=0:=by simp only at hk;omega
    subst this;rw [k0 rfl];rfl
end
def itemsOk (sg:Sig) (es:List Ent) (zs:List (Nat × Nat)) (np:Nat):List RvI->Nat->Bool
 | [],_=>true
 | I::Is,b=>(CT.nowns I.cs || entOk es I.t I.off I.cs.length np b)&&srcOk sg es zs I.cs&&itemsOk sg es zs np Is (b+I.cs.length)
section
variable {P:Program} {ac:Nat->Nat->Value} {κ0 κ:Col} {w0 w:World} {N:Nat} {tg:Nat->TT} {sv s:Nat->AV} {a:Act} {D:List TT} {sg:Sig} {es:List Ent} {zs:List (Nat × Nat)}
theorem items_ok (h:R ac κ0 w0 κ w N tg sv (gm a)) (hL:Le (gt D) s tg sv) (hN:sg.ps.length<=N) {np:Nat}:∀{rvs:List ResultVar} {Is:List RvI} {base:Nat} {as:List A} {pre:List Value},rvXs P D rvs=some Is->itemsOk sg es zs np Is base=true ->
  getRv s Is=some as->pre.length=base ->
  ∃(xs vs:List Value),xs.length=rvs.length/\(∀(i:Nat) rv,rvs[i]?=some rv->∃x,xs[i]?=some x/\(rvRun a.tmps rv).run P w = .ok x w)/\tupOf (Is.map fun I=>(I.ag,I.cs.length)) xs=some vs/\vs.length=(Is.flatMap (·.cs)).length /\
   (∀I,Is=[I]->∃x,xs=[x]/\cellsOf I.ag x=some vs)/\RCL (exC κ0 κ (exF es zs)) w (Is.flatMap (·.cs)) (np,[]) base (fun k=>(pre++vs).getD k undef) as
 | [],Is,base,as,pre,hx,_,hg,_=>by
  simp only [rvXs,Option.some.injEq] at hx;subst hx;simp only [getRv,Option.some.injEq] at hg;subst hg;exact ⟨[],[],rfl,by simp,rfl,rfl,by simp,by simp [RCL]⟩
 | rv::rvs,Is,base,as,pre,hx,hok,hg,hp=>by
  simp only [rvXs] at hx;split at hx;case h_2=>cases hx
  case h_1 I Is' hI hIs=>
  cases hx;simp only [itemsOk,Bool.and_eq_true] at hok;simp only [getRv] at hg;split at hg;case h_2=>cases hg
  case h_1 a1 r1 hg1 hg2=>
  cases hg;obtain ⟨x,vs,get,g1,g2,g3,g4,gg,g5⟩:=rv_ok h hL hI hg1;obtain ⟨xs,ws,k1,k2,k3,k4,k5,k6⟩:=items_ok (np:=np) (pre:=pre++vs) (base:=base+I.cs.length) h hL hN hIs hok.2 hg2 (by simp [hp,g3]);refine ⟨x::xs,vs++ws,by simp [k1],fun i rv' hi => ?_,?_,by simp [g3,k4],fun J hJ => ?_,?_⟩
  ·cases i with
   | zero=>simp at hi;subst hi;exact ⟨x,rfl,g1⟩
   | succ i=>obtain ⟨y,h1,h2⟩:=k2 i rv' (by simpa using hi);exact ⟨y,by simpa using h1,h2⟩
  ·simp only [List.map_cons,tupOf,g2,k3,g3,if_true]
  ·simp only [List.cons.injEq] at hJ;obtain ⟨rfl,rfl⟩:=hJ;simp only [List.map_nil] at k3;cases xs with
   | nil=>
    simp only [tupOf,Option.some.injEq] at k3;subst k3;exact ⟨x,rfl,by simpa using g2⟩
   | cons=>simp [tupOf] at k3
  ·simp only [List.flatMap_cons];refine RCL_append (row_out h hN (by have:=h.nle;omega) hok.1.1 (srcss_good hok.1.2) (fun i hi => ?_) g5) ?_
   ·rw [gg i hi,List.getD_eq_getElem?_getD,List.getD_eq_getElem?_getD,List.getElem?_append_right (by omega),hp,Nat.add_sub_cancel_left,List.getElem?_append_left (by omega)]
   ·rw [<-List.append_assoc];exact k6
end
end Go.Fw
