/- A way of showing what a function computes: the blocks of the heap are owned by the places that hold them; this is a part of it. No conditions. -/
import Derived.Test.YtbdciplhpomakaaGreatG1
import Derived.Orders
import Derived.OrdersHeld
import Derived.Laws.StructEq
import Derived.Laws.BytesString
set_option linter.unusedVariables false
set_option linter.unusedSimpArgs false
set_option linter.unusedSectionVars false
namespace Go.Fw
def mi (g:Nat->TT) (t:Nat):Nat->TT:=fun u=>if u=t then .dead else (g u).kill [t] [t]
def uZ (t r base:Nat) (κ:aH):aH:=fun b=>
 match κ b with
 | some (r',m::q)=>if r'=t then some (r,(base+m)::q) else some (r',m::q)
 | x=>x
theorem WA {t r base:Nat} {κ:aH} {b:Nat} (h:∀q,κ b≠some (t,q)):uZ t r base κ b=κ b:=by
 unfold uZ;split
 ·rename_i r' m q hk;rw [if_neg (by rintro rfl;exact h _ hk),hk]
 ·rfl
theorem Yc {t r base:Nat} {κ:aH} {b:Nat} (h:κ b=none):uZ t r base κ b=none:=by
 rw [WA (by rw [h];simp),h]
section
variable {ac:Nat->Nat->Value} {κ0 κ:aH} {w0 w:World} {N:Nat} {tg:Nat->TT} {sv:Nat->AV} {tm:Nat->Value}
theorem alE (h:R ac κ0 w0 κ w N tg sv tm) {t r base:Nat} (htN:t<N):R ac κ0 w0 (uZ t r base κ) w N (mi tg t) sv tm:=by
 refine oJ (mods:=[t]) (M:=[t]) h ?_ (fun S hS b hb => ?_) (fun b r' q hr hb => ?_) (fun r' hr => ?_) (fun _ _=>rfl) (fun _ _=>rfl) (fun u hu => ?_) (fun u hu => ?_) (fun b hb => ?_) ?_
 ·have:=h.nle;simp only [List.mem_singleton];omega
 ·have hne:∀q,κ b≠some (t,q):=fun q hk=>hS t (by simp) (hb.2 _ _ hk).1
  exact ⟨⟨hb.1,fun r' q hk=>by rw [WA hne] at hk;exact hb.2 _ _ hk⟩,Same.refl w b⟩
 ·simp only [List.mem_singleton] at hr;exact ⟨WA (by rw [hb];intro q hk;cases hk;exact hr rfl),Same.refl w b⟩
 ·simp only [List.mem_singleton] at hr;left;simp [mi,hr]
 ·simp only [List.mem_singleton] at hu;subst hu;simp [mi,TR]
 ·have:u≠t:=by omega
  simp only [mi,if_neg this,h.out u hu];rfl
 ·exact Yc (h.col b hb)
 ·refine ⟨h.fr.size,fun b hb h0 => ?_,h.fr.os,h.fr.out,h.fr.tape⟩;have:=h.fr.kept b hb h0;exact ⟨Yc this.1,this.2⟩
end
theorem aiZ {g tg:Nat->TT} {s sv:Nat->AV} (h:Le g s tg sv) (t:Nat):Le (mi g t) s (mi tg t) sv:=by
 intro u;by_cases hu:u=t
 ·left;simp [mi,hu]
 ·rcases h u with h1|h1
  ·left;simp only [mi,if_neg hu,h1];rfl
  ·right;simp only [mi,if_neg hu,h1.1];exact ⟨trivial,h1.2⟩
def KM (j j2 base:Nat) (q:List Nat):Option Pl:=
 match q with
 | m::q'=>if base<=m then some (j2,(m-base)::q') else some (j,m::q')
 | []=>some (j,[])
section
variable {P:Program} {ac:Nat->Nat->Value} {κ0 κ:aH} {w0 w:World} {N:Nat} {tg g:Nat->TT} {sv s:Nat->AV} {a:Act}
theorem an7 (h:R ac κ0 w0 κ w N tg sv (gm a)) {t r j j2 base:Nat} {ag:Bool} {cs cs':List CT} (ht:tg t = .val ag cs') (hok:yQ cs' cs=true) {as:List A} {is:List Nat} (hs:sv t = .v as is) {Sall:List Nat} :
  lq (dK (uZ t r base κ) (some r) (KM j j2 base) Sall) w j2 (gm a t) as (.tk ag cs):=by
 have h1:=h.tr t;rw [ht] at h1;simp only [TR] at h1;obtain ⟨as',vs,g1,g2,g3,_,g5⟩:=h1;rw [hs] at g1;cases g1;refine ⟨vs,g2,by rw [g3,FO hok],?_⟩;have:=dQ (f:=id) (P:=fun _=>False) (κ:=κ) (w:=w) (κ':=dK (uZ t r base κ) (some r) (KM j j2 base) Sall) (w':=w) (p':=(j2,[])) (j':=0) (get':=fun k=>vs.getD k undef) (fun S hS=>hS.elim) (oN (oO hok).2.2) (fun i hi b q hb=>⟨?_,Same.refl w b⟩) (fun i hi=>rfl) (Ps hok g5)
 ·rwa [fE] at this
 ·have hb':κ b=some (t,i::q):=by rw [hb];simp
  unfold dK uZ;rw [hb'];simp only [if_true,KM];rw [if_pos (by omega),show base+i-base=i from by omega];simp
theorem an8 (h:R ac κ0 w0 κ w N tg sv (gm a)) {r j j2:Nat} {cr cs:List CT} (hr:tg r = .box cr) (hok:TJ cr cs=true) {as:List A} {is:List Nat} (hs:sv r = .v as is) {Sall:List Nat} (hrS:r∉Sall) (hS:∀m,m∈CT.roSs cr->m∈Sall) {x:Value} (hx:x=gm a r) :
  lq (dK κ (some r) (KM j j2 cr.length) Sall) w j x as (.mp cs):=by
 have h1:=h.tr r;rw [hr] at h1;simp only [TR] at h1;obtain ⟨as',b,g1,g2,g3,g4,g5,g6,g7⟩:=h1;rw [hs] at g1;cases g1;subst hx;simp only [TJ,aG] at hok;have heq:=CT.beqs_eq hok.1.1.1;have hl:cr.length=cs.length:=by
  have:=congrArg List.length heq;simpa [fH,dW] using this
 refine ⟨b,g2,g3,?_,by rw [<-hl];exact g5,?_⟩
 ·unfold dK;rw [g4];simp [KM]
 ·have:=dQ (f:=fun _=>[]) (P:=fun S=>∀m,m∈S->m∈Sall) (κ:=κ) (w:=w) (κ':=dK κ (some r) (KM j j2 cr.length) Sall) (w':=w) (p':=(j,[])) (j':=0) (get':=cellD w b) (fun S hS b' hb=>⟨⟨hb.1,fun r' q hq => ?_⟩,Same.refl w b'⟩) (lu hS) (fun i hi b' q hb=>⟨?_,Same.refl w b'⟩) (fun i hi=>rfl) g7
  ·have h2:=dR.2 this;rw [heq] at h2;exact dR.1 h2
  ·exfalso;unfold dK at hq;cases hk:κ b' with
   | none=>simp [hk] at hq
   | some p=>
    obtain ⟨r2,q2⟩:=p;obtain ⟨h3,h4⟩:=hb.2 _ _ hk;have h5:=hS _ h3;have h6:r2≠r:=by rintro rfl;exact hrS h5
    simp [hk,h6,h5,h4] at hq
  ·have hb':κ b'=some (r,i::q):=by rw [hb];simp
   unfold dK;rw [hb'];simp only [if_true,KM];rw [if_neg (by omega)];simp
end
def ai0:Nat->List PM->List Operand->Option (Nat × Nat)
 | i,.tk _ _::_,.tmp t::_=>some (i,t)
 | i,_::ps,_::xs=>ai0 (i+1) ps xs
 | _,_,_=>none
def rQ (P:Program) (g:Nat->TT) (ag':Bool) (cs':List CT) (t j2:Nat):Nat->List PM->List Operand->List TypeId->Option AX
 | _,[],[],[]=>some ⟨[],[],[],none⟩
 | i,pm::ps,x::xs,ty::tys=>match rQ P g ag' cs' t j2 (i+1) ps xs tys with
  | some Y=>match pm with
   | .rd ag cs=>match rdX P g ty i ag cs x with
    | some (X,S)=>some ⟨X.get::Y.gets,X.rd++Y.rd,S++Y.S,Y.sp⟩
    | none=>none
   | .tk ag cs=>match x with
    | .tmp t'=>if t'=t/\i=j2/\ag=ag'/\yQ cs' cs=true then some ⟨fQ t::Y.gets,t::Y.rd,Y.S,Y.sp⟩ else none
    | _=>none
   | .mp cs=>match Y.sp,nS g (.mp cs) x with
    | none,some (f,rd)=>some ⟨f::Y.gets,rd++Y.rd,Y.S,some (i,.mp cs,x)⟩
    | _,_=>none
   | .mt _ _=>none
  | none=>none
 | _,_,_,_=>none
section
variable {P:Program} {ac:Nat->Nat->Value} {κ0 κ:aH} {w0 w:World} {N:Nat} {tg g:Nat->TT} {sv s:Nat->AV} {a:Act}
theorem Yd (h:R ac κ0 w0 κ w N tg sv (gm a)) (hL:Le g s tg sv) {r0:Option Nat} {gG:List Nat->Option Pl} {Sall:List Nat} (hr0:∀r,r0=some r->r∉Sall) {ag':Bool} {cs':List CT} {t j2:Nat}
  (htk:∀cs as,yQ cs' cs=true->fQ t s=some as->lq (dK κ r0 gG Sall) w j2 (gm a t) as (.tk ag' cs)) :
  ∀{i:Nat} {ps:List PM} {xs:List Operand} {tys:List TypeId} {Y:AX} {ass:List (List A)},rQ P g ag' cs' t j2 i ps xs tys=some Y->ky s Y.gets=some ass->(∀r,r∈Y.S->r∈Sall) ->
   (∀j cs x f rd as,Y.sp=some (j,.mp cs,x)->nS g (.mp cs) x=some (f,rd)->f s=some as->lq (dK κ r0 gG Sall) w j (a.eval x) as (.mp cs)) ->
   xs.length=ps.length/\ass.length=ps.length/\(∀k pm x as,ps[k]?=some pm->(xs.map a.eval)[k]?=some x->ass[k]?=some as->lq (dK κ r0 gG Sall) w (i+k) x as pm) /\
   (∀j pm x,Y.sp=some (j,pm,x)->i<=j/\ps[j-i]?=some pm/\pm.mut=true/\xs[j-i]?=some x)
 | i,[],[],[],Y,ass,hx,hg,_,_=>by
  simp only [rQ,aF] at hx
  subst hx
  simp only [ky,aF] at hg
  subst hg
  simp
 | i,pm::ps,x::xs,ty::tys,Y,ass,hx,hg,hS,hsp=>by
  simp only [rQ] at hx
  split at hx
  case h_2=>cases hx
  case h_1 Y' hY=>
  have fin:∀{f:(Nat->AV)->Option (List A)} {rd S:List Nat} {sp:Option (Nat × PM × Operand)} {ass':List (List A)} {as:List A},
    (Y'.sp=sp\/Y'.sp=none/\sp=some (i,pm,x)/\pm.mut=true)->ky s Y'.gets=some ass'->ass=as::ass'->(∀r,r∈Y'.S->r∈Sall) ->
    (∀j cs x f rd as,Y'.sp=some (j,.mp cs,x)->nS g (.mp cs) x=some (f,rd)->f s=some as->lq (dK κ r0 gG Sall) w j (a.eval x) as (.mp cs))->lq (dK κ r0 gG Sall) w i (a.eval x) as pm->Y.sp=sp ->
    (x::xs).length=(pm::ps).length/\ass.length=(pm::ps).length/\(∀k pm' x' as,(pm::ps)[k]?=some pm'->((x::xs).map a.eval)[k]?=some x'->ass[k]?=some as->lq (dK κ r0 gG Sall) w (i+k) x' as pm') /\
   (∀j pm' x',Y.sp=some (j,pm',x')->i<=j/\(pm::ps)[j-i]?=some pm'/\pm'.mut=true/\(x::xs)[j-i]?=some x'):=by
   intro f rd S sp ass' as hspc hg' hae hS' hsp' harg hYsp;subst hae;obtain ⟨k1,k2,k3,k4⟩:=Yd h hL hr0 htk hY hg' hS' hsp';refine ⟨by simp [k1],by simp [k2],fun k pm' x' as' h1 h2 h3 => ?_,fun j pm' x' hj => ?_⟩
   ·cases k with
    | zero=>
     simp at h1 h2 h3;subst h1 h2 h3;exact harg
    | succ k=>
     rw [show i+(k+1)=i+1+k from by omega];exact k3 k pm' x' as' (by simpa using h1) (by simpa using h2) (by simpa using h3)
   ·rw [hYsp] at hj;rcases hspc with he|⟨hn,he,hm⟩
    ·obtain ⟨g1,g2,g3,g4⟩:=k4 j pm' x' (he.trans hj);have e1:j-i=(j-(i+1))+1:=by omega
     rw [e1];exact ⟨by omega,by simpa using g2,g3,by simpa using g4⟩
    ·rw [he] at hj;simp only [aF,Prod.mk.injEq] at hj;obtain ⟨rfl,rfl,rfl⟩:=hj;exact ⟨Nat.le_refl _,by simp,hm,by simp⟩
  split at hx
  ·rename_i ag cs
   split at hx
   case h_2=>cases hx
   case h_1 X S hX=>
   cases hx
   simp only [ky] at hg
   split at hg
   case h_2=>cases hg
   case h_1 as ass' has hg'=>
   cases hg
   exact fin (f:=X.get) (rd:=[]) (S:=[]) (.inl rfl) hg' rfl (fun r hr=>hS r (by simp [hr])) (fun j cs x f rd as hj=>hsp j cs x f rd as hj) (aiY h hL hX has (fun r hr=>hS r (by simp [hr])) hr0) rfl
  ·rename_i ag cs
   split at hx
   case h_2=>cases hx
   case h_1 t'=>
   split at hx
   case isFalse=>cases hx
   case isTrue hc=>
   obtain ⟨rfl,rfl,rfl,hok⟩:=hc
   cases hx
   simp only [ky] at hg
   split at hg
   case h_2=>cases hg
   case h_1 as ass' has hg'=>
   cases hg
   exact fin (f:=fQ t') (rd:=[]) (S:=[]) (.inl rfl) hg' rfl hS (fun j cs x f rd as hj=>hsp j cs x f rd as hj) (htk cs as hok has) rfl
  ·rename_i cs
   split at hx
   case h_2=>cases hx
   case h_1 f rd hspn hsg=>
   cases hx
   simp only [ky] at hg
   split at hg
   case h_2=>cases hg
   case h_1 as ass' has hg'=>
   cases hg
   exact fin (f:=f) (rd:=[]) (S:=[]) (.inr ⟨hspn,rfl,rfl⟩) hg' rfl hS (fun j cs x f rd as hj=>by rw [hspn] at hj;cases hj) (hsp i cs x f rd as rfl hsg has) rfl
  ·cases hx
 | _,[],_::_,_,_,_,hx,_,_,_=>by simp [rQ] at hx
 | _,[],[],_::_,_,_,hx,_,_,_=>by simp [rQ] at hx
 | _,_::_,[],_,_,_,hx,_,_,_=>by simp [rQ] at hx
 | _,_::_,_::_,[],_,_,hx,_,_,_=>by simp [rQ] at hx
end
def agq (sg:aI) (j:Nat):Bool:=
 match sg.ps[j]? with
 | some pm=>pm.mut
 | none=>false
theorem alF {sg:aI} {j:Nat} (h:agq sg j=true):∃pm,sg.ps[j]?=some pm/\pm.mut=true:=by
 unfold agq at h;split at h
 ·rename_i pm hpm;exact ⟨pm,hpm,h⟩
 ·cases h
def RG (P:Program) (sigs:FuncId->Option aI) (N:Nat) (g:Nat->TT) (o:Oper):Option Stp:=
 match o.dst,o.op with
 | some d,.call c=>match c.callee with
  | .value (.func K)=>match P.funcs[K]?,sigs K with
   | some fn,some sg=>match ai0 0 sg.ps c.args.toList with
    | some (j2,t)=>match g t with
     | .val ag' cs'=>match rQ P (mi g t) ag' cs' t j2 0 sg.ps c.args.toList fn.params.toList with
      | some Y=>match spK N (mi g t) Y.sp with
       | some (.mp r cr cs j)=>
        if d < N ∧ (fn.name == "runtime.NumGoroutine") = false ∧ fn.body.isNone = false ∧ (r ∉ Y.S ++ CT.roSs cr ∧ r ≠ d) ∧ Z6 sg (Y.S ++ CT.roSs cr) = true ∧ sg.ps.length < FB ∧ t < N ∧ t ≠ d ∧ t ≠ r ∧ agq sg j2 = true then
         some ⟨[(d,di (Y.S++CT.roSs cr) sg.res),(r,.box (CT.mapSs (fun _=>Y.S++CT.roSs cr) (CT.unpins cs))),(t,.dead)],fun T=>(T.kill [t] [t]).killS r [d,r] [r],Y.rd++[r,t],.call K sg (fun s=>ky s Y.gets) fun res outs s=>(SK.mp r cr cs j).post sg.res res outs s⟩
        else none
       | _=>none
      | none=>none
     | _=>none
    | none=>none
   | _,_=>none
  | _=>none
 | _,_=>none
theorem adm {P:Program} {sigs:FuncId->Option aI} {N:Nat} {g:Nat->TT} {o:Oper} {S:Stp} (h:RG P sigs N g o=some S):cK P N o g S:=by
 unfold RG at h;split at h;case h_2=>cases h
 case h_1 d c hd ho=>
 obtain ⟨callee,args,ats⟩:=c;simp only at h;split at h;case h_2=>cases h
 case h_1 _ K=>
 split at h;case h_2=>cases h
 case h_1 fn sg hf hsg=>
 split at h;case h_2=>cases h
 case h_1 j2 t0 hfind=>
 split at h;case h_2=>cases h
 case h_1 ag' cs' hT0=>
 split at h;case h_2=>cases h
 case h_1 Y hY=>
 split at h;case h_2=>cases h
 case h_1 r cr cs j hk=>
 split at h;case isFalse=>cases h
 case isTrue hc=>
 obtain ⟨hdN,hname,hbody,hr0,hres,hnp,htN,htd0,htr0,hmut2⟩:=hc;cases h;intro ac κ0 κ w0 w tg sv s a v next Q hN hR hL hv hcont;simp only [Eff.rel] at hv;obtain ⟨ass,res,outs,hass,hgood,hpost⟩:=hv;have hex:=Ya (a:=a) (w:=w) ho hf hname hbody;have hsp:=Yb hk;generalize hspe:Y.sp=sp at hsp;cases hsp with
 | @mp _ t _ _ _ hr hok hrN ht=>
  have hR2:=alE (t:=t0) (r:=r) (base:=cr.length) hR htN;have hL2:=aiZ hL t0;obtain ⟨d1,d2⟩:=hL.at hT0 (by simp);obtain ⟨e1,e2⟩:=hL2.at hr (by simp);have hr0':∀u,some r=some u->u∉Y.S++CT.roSs cr:=fun u hu=>by cases hu;exact hr0.1
  have hok2:=hok;simp only [TJ,aG] at hok2;have heq:=CT.beqs_eq hok2.1.1.1;have hemp:CT.srcss (CT.unpins cs)=[]:=List.isEmpty_iff.1 hok2.1.2;simp only [SK.post] at hpost;split at hpost;case h_2=>cases hpost
  case h_1 oo hoo=>
  cases hpost;have h1:=hR2.tr r;rw [e1] at h1;simp only [TR] at h1;obtain ⟨ra,b,g1,g2,g3,g4,g5,g6,g7⟩:=h1;have hxr:gm a t=gm a r:=by
   rcases ht with rfl|⟨S0,hT⟩
   ·rfl
   ·obtain ⟨t1,t2⟩:=hL2.at hT (by simp);have h1:=hR2.tr t;rw [t1] at h1;simp only [TR] at h1;obtain ⟨is,B,O,u1,u2,_,_,u5⟩:=h1;rw [e1] at u2;simp only [eY,rb,g2,Option.map_some] at u2;cases is with
    | nil=>
     simp only [wk,aF,Prod.mk.injEq] at u2;rw [u5,g2,<-u2.1,<-u2.2]
    | cons=>simp [wk] at u2
  obtain ⟨k1,k2,k3,k4⟩:=Yd (r0:=some r) (gG:=KM j j2 cr.length) (Sall:=Y.S++CT.roSs cr) hR2 hL2 hr0' (fun cs2 as hok3 has=>by
   obtain ⟨is,hs⟩:=bJ has
   exact an7 hR d1 hok3 (by rw [d2,hs])) hY hass (fun r hr=>List.mem_append_left _ hr) (fun j' cs2 x f rd as hj hf' hfs=>by
   rw [hspe] at hj
   simp only [aF,Prod.mk.injEq,PM.mp.injEq] at hj
   obtain ⟨rfl,rfl,rfl⟩:=hj
   have hgr:∃is,s r = .v as is:=by
    rcases ht with rfl|⟨S0,hT⟩
    ·simp only [nS,hr,aF,Prod.mk.injEq] at hf'
     obtain ⟨rfl,_⟩:=hf'
     exact bJ hfs
    ·simp only [nS,hT,aF,Prod.mk.injEq] at hf'
     obtain ⟨rfl,_⟩:=hf'
     exact bJ hfs
   obtain ⟨is,hs⟩:=hgr
   exact an8 hR2 e1 hok (by rw [e2,hs]) (hr0' r rfl) (fun m hm=>List.mem_append_right _ hm) hxr)
  obtain ⟨_,hpj,hmj,hxj⟩:=k4 _ _ _ hspe;refine uY (d:=d) (gB:=fun q=>some q) hex hgood hR2.col k1 k2 hnp (fun q p _ hp => ?_) (fun k pm x as h1 h2 h3=>by simpa using k3 k pm x as h1 h2 h3) fun vv κ' w' hcr hrs houts => ?_
  ·have hpj':∃pm,sg.ps[j]?=some pm/\pm.mut=true:=⟨_,by simpa using hpj,hmj⟩
   unfold KM at hp;split at hp
   ·split at hp
    ·cases hp;exact alF hmut2
    ·cases hp;exact hpj'
   ·cases hp;exact hpj'
  ·have htd:r≠d:=hr0.2;have hjlt:j<sg.ps.length:=by have:=(aY hpj).1;omega
   have hout:=houts j (.mp cs) (gm a t) oo (by simpa using hpj) (by
    rw [List.getElem?_map];simp only [Nat.sub_zero] at hxj;rw [hxj];rfl) hoo
   obtain ⟨b',o1,o2,o3,o4,o5⟩:=hout;have hko:dX (uZ t0 r cr.length κ) (dK (uZ t0 r cr.length κ) (some r) (KM j j2 cr.length) (Y.S++CT.roSs cr)) κ' sg.ps.length d w.heap.size (some r) (fun q=>some q) b'=some (r,[]):=by
    unfold dX;rw [o3];simp only;rw [if_neg (by omega),if_neg (by omega)]
   have hroot:TR ac (dX (uZ t0 r cr.length κ) (dK (uZ t0 r cr.length κ) (some r) (KM j j2 cr.length) (Y.S++CT.roSs cr)) κ' sg.ps.length d w.heap.size (some r) (fun q=>some q)) w' (ay (fun u=>(mi tg t0 u).kill [d,r] [r]) [(d,di (Y.S++CT.roSs cr) sg.res),(r,.box (CT.mapSs (fun _=>Y.S++CT.roSs cr) (CT.unpins cs)))])
     (ay sv [(d,gF res sg.res),(r,.v oo [])]) (upd (gm a) d vv) r (.box (CT.mapSs (fun _=>Y.S++CT.roSs cr) (CT.unpins cs))):=by
    simp only [TR];refine ⟨oo,b',by simp [ay,htd],by rw [upd_ne _ _ _ htd,<-hxr,o1],o2,hko,by rw [dW,fH];exact o4,dV (D5 hok2.2),?_⟩;refine dQ (f:=fun _=>Y.S++CT.roSs cr) (P:=fun S=>∀r,r∈S->∃pm,sg.ps[r]?=some pm/\pm.mut=false) (κ:=κ') (w:=w') (κ':=dX (uZ t0 r cr.length κ) (dK (uZ t0 r cr.length κ) (some r) (KM j j2 cr.length) (Y.S++CT.roSs cr)) κ' sg.ps.length d w.heap.size (some r) (fun q=>some q)) (w':=w') (p':=(r,[])) (j':=0) (get':=cellD w' b') (fun S hS b hb=>⟨hcr.res_ro hS hb,Same.refl w' b⟩) (zl.2 (by rw [hemp];simp)) (fun i hi b2 q hb=>⟨?_,Same.refl w' b2⟩) (fun i hi=>rfl) (dR.2 o5)
    ·unfold dX;rw [hb];simp only;rw [if_neg (by omega),if_neg (by omega)]
   have hR':=FP hR2 hcr hdN (fun u hu=>by cases hu;exact ⟨hrN,htd⟩) (v:=vv) (tg':=ay (fun u=>(mi tg t0 u).kill [d,r] [r]) [(d,di (Y.S++CT.roSs cr) sg.res),(r,.box (CT.mapSs (fun _=>Y.S++CT.roSs cr) (CT.unpins cs)))]) (sv':=ay sv [(d,gF res sg.res),(r,.v oo [])])
    (fun u hu hne=>by
     have hrt:u≠r:=fun he=>hne (by rw [he])
     simp only [ay,if_neg hu,if_neg hrt];rfl) (fun u hu hne=>by
     have hrt:u≠r:=fun he=>hne (by rw [he])
     simp only [ay,if_neg hu,if_neg hrt]) (by
     have:=hcr.tr (ac:=ac) hres hrs (ay (fun u=>(mi tg t0 u).kill [d,r] [r]) [(d,di (Y.S++CT.roSs cr) sg.res),(r,.box (CT.mapSs (fun _=>Y.S++CT.roSs cr) (CT.unpins cs)))]) (ay sv [(d,gF res sg.res),(r,.v oo [])]) (upd (gm a) d vv) (by simp [ay]) (by simp [upd])
     simpa [ay] using this) (fun u hu=>by
     cases hu
     have:ay (fun u=>(mi tg t0 u).kill [d,r] [r]) [(d,di (Y.S++CT.roSs cr) sg.res),(r,.box (CT.mapSs (fun _=>Y.S++CT.roSs cr) (CT.unpins cs)))] r = .box (CT.mapSs (fun _=>Y.S++CT.roSs cr) (CT.unpins cs)):=by simp [ay,htd]
     rw [this];exact hroot)
   have hR3:=Z5 (tg2:=ay (fun u=>(mi tg t0 u).killS r [d,r] [r]) [(d,di (Y.S++CT.roSs cr) sg.res),(r,.box (CT.mapSs (fun _=>Y.S++CT.roSs cr) (CT.unpins cs)))]) hR2 hR' (r:=r) (mods:=[d,r]) (M:=[r]) (X:=[d,r]) (by simp) (fun u hu=>by
    simp only [List.mem_cons,List.not_mem_nil,or_false,not_or] at hu
    simp [ay,upd,hu.1,hu.2]) (fun u hu=>by
    simp only [List.mem_cons,List.not_mem_nil,or_false] at hu
    rcases hu with rfl|rfl
    ·simp [ay]
    ·simp [ay,htd]) (fun hb=>⟨⟨_,by simp [ay,htd];rfl⟩,by simp [upd,htd]⟩)
   refine hcont vv w' _ _ _ (by rw [hd,lL (a:=a) (by rw [hN];exact hdN)];exact hR3) (fun u => ?_) (fun u=>by simp [ay]);simp only [ay];by_cases h1:u=d
   ·simp [h1]
   ·by_cases h2:u=r
    ·simp [h2,htd]
    ·by_cases h3:u=t0
     ·simp [h1,h2,h3,htd0,htr0,mi,TT.killS,TT.kill]
     ·simp [h1,h2,h3,mi]
end Go.Fw
namespace Go.Fw
structure bA where
 n:Nat
 up:Nat->List (Nat × TT)
 dst:Nat->Option Nat
 bef:Nat->Nat->Bool
 D0:Nat->TT
 s0:Nat->AV
 wn:Nat->Bool
 vv:Nat->List AV
 np:Nat->Bool
 px:Nat->Value
namespace bA
variable (r:bA)
def Wd (k t:Nat):Prop:=t∈(r.up k).map (·.1)\/r.dst k=some t
def sS (k:Nat) (f:Nat->AV):Nat->AV:=if r.wn k then ay f (((r.up k).map (·.1)).zip (r.vv k)) else f
def dS (k:Nat) (f:Nat->TT):Nat->TT:=if r.wn k then ay f (r.up k) else fun t=>if r.dst k=some t then .dead else f t
def sL (L:Nat->Bool):Nat->Nat->AV
 | 0=>r.s0
 | k+1=>if L k then r.sS k (sL L k) else sL L k
def dL (L:Nat->Bool):Nat->Nat->TT
 | 0=>r.D0
 | k+1=>if L k then r.dS k (dL L k) else dL L k
theorem upds_out {α:Type} {f:Nat->α} {l:List (Nat × α)} {t:Nat} (h:t∉l.map (·.1)):ay f l t=f t:=by
 induction l with
 | nil=>rfl
 | cons p l ih=>
  simp only [List.map_cons,List.mem_cons,not_or] at h;simp only [ay,if_neg h.1,ih h.2]
theorem upds_in {α:Type} {f g:Nat->α} {l:List (Nat × α)} {t:Nat} (h:t∈l.map (·.1)):ay f l t=ay g l t:=by
 induction l with
 | nil=>simp at h
 | cons p l ih=>
  simp only [List.map_cons,List.mem_cons] at h;simp only [ay];split
  ·rfl
  ·rename_i hne;exact ih (h.resolve_left hne)
theorem zip_mem {α β:Type} {l:List α} {v:List β} {t:α} (h:t∈(l.zip v).map (·.1)):t∈l:=by
 obtain ⟨p,hp,rfl⟩:=List.mem_map.1 h;obtain ⟨a,b⟩:=p;exact (List.of_mem_zip hp).1
variable {r}
theorem sS_out {k t:Nat} {f:Nat->AV} (h:¬r.Wd k t):r.sS k f t=f t:=by
 simp only [Wd,not_or] at h;unfold sS;split
 ·exact upds_out fun hm=>h.1 (zip_mem hm)
 ·rfl
theorem dS_out {k t:Nat} {f:Nat->TT} (h:¬r.Wd k t):r.dS k f t=f t:=by
 simp only [Wd,not_or] at h;unfold dS;split
 ·exact upds_out h.1
 ·simp only [if_neg h.2]
theorem Ah {k t:Nat} {f g:Nat->AV} (h:f t=g t):r.sS k f t=r.sS k g t:=by
 unfold sS;split
 ·by_cases hm:t∈(((r.up k).map (·.1)).zip (r.vv k)).map (·.1)
  ·exact upds_in hm
  ·rw [upds_out hm,upds_out hm,h]
 ·exact h
theorem Ai {k t:Nat} {f g:Nat->TT} (h:f t=g t):r.dS k f t=r.dS k g t:=by
 unfold dS;split
 ·by_cases hm:t∈(r.up k).map (·.1)
  ·exact upds_in hm
  ·rw [upds_out hm,upds_out hm,h]
 ·simp only [h]
def lt (i:Nat):Nat->Bool:=fun j=>decide (j<i)
def ins (L:Nat->Bool) (i:Nat):Nat->Bool:=fun j=>j == i || L j
theorem s_loc {L:Nat->Bool} {i t:Nat} (hb:∀j k,r.bef j k=true->j<k) (hdown:∀j k,r.bef j k=true->L k=true->L j=true) (hi:L i=false) (hr:∀j,r.bef j i=true->L j=true)
  (ho:∀j,j<r.n->r.Wd j t->r.bef j i=true\/r.bef i j=true\/j=i):∀k,k<=r.n->r.sL L k t=r.sL (lt i) (min k i) t:=by
 intro k;induction k with
 | zero=>intro _;simp [sL]
 | succ k ih=>
  intro hk;have ih:=ih (by omega);simp only [sL];by_cases hw:r.Wd k t
  ·rcases ho k (by omega) hw with h1|h1|h1
   ·have hlt:=hb k i h1;rw [hr k h1,if_pos rfl,show min (k+1) i=min k i+1 from by omega,show min k i=k from by omega];simp only [sL,lt,hlt,decide_true,if_true];rw [show min k i=k from by omega] at ih;exact Ah ih
   ·have hlt:=hb i k h1;have hL:L k=false:=by
     cases hL:L k with
     | false=>rfl
     | true=>rw [hdown i k h1 hL] at hi;cases hi
    rw [hL,if_neg (by simp),ih];congr 1;omega
   ·subst h1;rw [hi,if_neg (by simp),ih];congr 1;omega
  ·have h1:(if L k then r.sS k (r.sL L k) else r.sL L k) t=r.sL L k t:=by
    split
    ·exact sS_out hw
    ·rfl
   rw [h1,ih];by_cases hki:k<i
   ·rw [show min (k+1) i=k+1 from by omega,show min k i=k from by omega];simp only [sL];split
    ·rw [sS_out hw]
    ·rfl
   ·congr 1;omega
theorem d_loc {L:Nat->Bool} {i t:Nat} (hb:∀j k,r.bef j k=true->j<k) (hdown:∀j k,r.bef j k=true->L k=true->L j=true) (hi:L i=false) (hr:∀j,r.bef j i=true->L j=true)
  (ho:∀j,j<r.n->r.Wd j t->r.bef j i=true\/r.bef i j=true\/j=i):∀k,k<=r.n->r.dL L k t=r.dL (lt i) (min k i) t:=by
 intro k;induction k with
 | zero=>intro _;simp [dL]
 | succ k ih=>
  intro hk;have ih:=ih (by omega);simp only [dL];by_cases hw:r.Wd k t
  ·rcases ho k (by omega) hw with h1|h1|h1
   ·have hlt:=hb k i h1;rw [hr k h1,if_pos rfl,show min (k+1) i=min k i+1 from by omega,show min k i=k from by omega];simp only [dL,lt,hlt,decide_true,if_true];rw [show min k i=k from by omega] at ih;exact Ai ih
   ·have hlt:=hb i k h1;have hL:L k=false:=by
     cases hL:L k with
     | false=>rfl
     | true=>rw [hdown i k h1 hL] at hi;cases hi
    rw [hL,if_neg (by simp),ih];congr 1;omega
   ·subst h1;rw [hi,if_neg (by simp),ih];congr 1;omega
  ·have h1:(if L k then r.dS k (r.dL L k) else r.dL L k) t=r.dL L k t:=by
    split
    ·exact dS_out hw
    ·rfl
   rw [h1,ih];by_cases hki:k<i
   ·rw [show min (k+1) i=k+1 from by omega,show min k i=k from by omega];simp only [dL];split
    ·rw [dS_out hw]
    ·rfl
   ·congr 1;omega
theorem s_ins {L:Nat->Bool} {i:Nat} (hi:L i=false) (hdis:∀j t,i<j->j<r.n->L j=true->¬(r.Wd i t/\r.Wd j t)) :
  ∀k,k<=r.n->∀t,r.sL (ins L i) k t=if i<k then r.sS i (r.sL L k) t else r.sL L k t:=by
 intro k;induction k with
 | zero=>intro _ t;simp [sL]
 | succ k ih=>
  intro hk t;have ih:=ih (by omega);simp only [sL];by_cases hki:k=i
  ·subst hki;rw [show ins L k k=true from by simp [ins],if_pos rfl,hi,if_pos (by omega),if_neg (by simp)];refine Ah ?_;rw [ih t,if_neg (by omega)]
  ·have hins:ins L i k=L k:=by simp [ins,hki]
   rw [hins];by_cases hL:L k=true
   ·rw [if_pos hL,if_pos hL];by_cases hlt:i<k
    ·rw [if_pos (by omega)];by_cases hw:r.Wd k t
     ·have hn:¬r.Wd i t:=fun hw'=>hdis k t hlt (by omega) hL ⟨hw',hw⟩
      rw [sS_out hn];refine Ah ?_;rw [ih t,if_pos hlt,sS_out hn]
     ·rw [sS_out hw,ih t,if_pos hlt];refine Ah ?_;rw [sS_out hw]
    ·rw [if_neg (by omega)];refine Ah ?_;rw [ih t,if_neg hlt]
   ·rw [if_neg hL,if_neg hL];rw [ih t];by_cases hlt:i<k
    ·rw [if_pos hlt,if_pos (by omega)]
    ·rw [if_neg hlt,if_neg (by omega)]
theorem d_ins {L:Nat->Bool} {i:Nat} (hi:L i=false) (hdis:∀j t,i<j->j<r.n->L j=true->¬(r.Wd i t/\r.Wd j t)) :
  ∀k,k<=r.n->∀t,r.dL (ins L i) k t=if i<k then r.dS i (r.dL L k) t else r.dL L k t:=by
 intro k;induction k with
 | zero=>intro _ t;simp [dL]
 | succ k ih=>
  intro hk t;have ih:=ih (by omega);simp only [dL];by_cases hki:k=i
  ·subst hki;rw [show ins L k k=true from by simp [ins],if_pos rfl,hi,if_pos (by omega),if_neg (by simp)];refine Ai ?_;rw [ih t,if_neg (by omega)]
  ·have hins:ins L i k=L k:=by simp [ins,hki]
   rw [hins];by_cases hL:L k=true
   ·rw [if_pos hL,if_pos hL];by_cases hlt:i<k
    ·rw [if_pos (by omega)];by_cases hw:r.Wd k t
     ·have hn:¬r.Wd i t:=fun hw'=>hdis k t hlt (by omega) hL ⟨hw',hw⟩
      rw [dS_out hn];refine Ai ?_;rw [ih t,if_pos hlt,dS_out hn]
     ·rw [dS_out hw,ih t,if_pos hlt];refine Ai ?_;rw [dS_out hw]
    ·rw [if_neg (by omega)];refine Ai ?_;rw [ih t,if_neg hlt]
   ·rw [if_neg hL,if_neg hL];rw [ih t];by_cases hlt:i<k
    ·rw [if_pos hlt,if_pos (by omega)]
    ·rw [if_neg hlt,if_neg (by omega)]
end bA
end Go.Fw
namespace Go.Fw
structure Pv (P:Program) (N:Nat) (ops:Array Oper) (St:Nat->Stp) (r:bA):Prop where
 n:r.n=ops.size
 up:∀i,i<r.n->∃ks:List Nat,r.up i=(St i).up++ks.map fun t=>(t,.dead)
 dst:∀i o,ops[i]?=some o->r.dst i=o.dst
 lt:∀j k,r.bef j k=true->j<k
 disj:∀i j t,i<j->j<r.n->r.bef i j=false->¬(r.Wd i t/\r.Wd j t)
 guard:∀i o j b,ops[i]?=some o->o.guard=some (j,b)->r.bef j i=true/\∃t,r.dst j=some t/\(∀k,k<r.n->r.Wd k t->k=j)/\(r.wn j=true->r.dL (bA.lt i) i t = .val false [.d])
 wn:∀i o,ops[i]?=some o->r.wn i=match o.guard with
  | none=>true
  | some (j,b)=>r.wn j&&(match r.dst j with
   | some t=>(match r.sL (bA.lt i) i t with
    | .v [.v (.bool c)] _=>c == b
    | _=>false)
   | none=>false)
 kill:∀i,i<r.n->r.wn i=true->∀t,t∉(r.up i).map (·.1)->(St i).kl (r.D0 t)=r.D0 t/\∀j,j<r.n->j≠i->r.bef i j=false->∀T,(t,T)∈r.up j->(St i).kl T=T
 killu:∀i,i<r.n->r.wn i=false->∀d,r.dst i=some d->∀t,t≠d->(r.D0 t).kill [d] []=r.D0 t/\∀j,j<r.n->j≠i->r.bef i j=false->∀T,(t,T)∈r.up j->T.kill [d] []=T
 step:∀i o,ops[i]?=some o->r.wn i=true->∃g,cK P N o g (St i)/\(∀t,g t = .dead\/(g t=r.dL (bA.lt i) i t/\∀j,j<r.n->r.Wd j t->r.bef j i=true\/r.bef i j=true\/j=i)) /\
  ∀t,t∈(St i).up.map (·.1)->t∉(((St i).up.map (·.1)).zip (r.vv i)).map (·.1)->ay (fun _=>.dead) (St i).up t = .dead\/g t≠.dead
 rel:∀i,i<r.n->r.wn i=true->(St i).eff.rel P (r.sL (bA.lt i) i) (r.vv i)/\(r.vv i).length<=(St i).up.length
 unw:∀i,i<r.n->∀d,r.dst i=some d->d<N/\r.np d=false
structure RInv (ac:Nat->Nat->Value) (κ0:aH) (w0:World) (N:Nat) (r:bA) (L:Nat->Bool) (a:Act) (w:World):Prop where
 st:∃κ tg sv,R ac κ0 w0 κ w N tg sv (gm a)/\Le (r.dL L r.n) (r.sL L r.n) tg sv
 size:a.tmps.size=N
 defers:a.defers=[]
 par:∀i,r.np i=true->gm a i=r.px i
 und:∀j t,j<r.n->L j=true->r.wn j=false->r.dst j=some t->(∀k,k<r.n->r.Wd k t->k=j)->gm a t=undef
theorem FQ {α β:Type}:∀{l m:List α} {v:List β},v.length<=l.length->(l++m).zip v=l.zip v
 | [],m,[],_=>by cases m<;>rfl
 | [],_,_::_,h=>by simp at h
 | a::l,m,[],_=>by simp
 | a::l,m,b::v,h=>by simp only [List.cons_append,List.zip_cons_cons];rw [FQ (by simpa using h)]
theorem Aj {α:Type} (f:Nat->α):∀(l m:List (Nat × α)) (t:Nat),ay f (l++m) t=ay (ay f m) l t
 | [],m,t=>rfl
 | (d,x)::l,m,t=>by simp only [List.cons_append,ay];rw [Aj f l m t]
theorem aeD (f:Nat->TT):∀(ks:List Nat) (t:Nat),t∈ks->ay f (ks.map fun t=>(t,TT.dead)) t = .dead
 | k::ks,t,h=>by
  simp only [List.map_cons,ay];split
  ·rfl
  ·rename_i hne;exact aeD f ks t ((List.mem_cons.1 h).resolve_left hne)
 | [],_,h=>by simp at h
theorem aaF {r:bA} {L:Nat->Bool} {t:Nat}:∀k,k<=r.n->r.dL L k t = .dead\/r.dL L k t=r.D0 t\/∃j,j<r.n/\L j=true/\(t,r.dL L k t)∈r.up j:=by
 intro k;induction k with
 | zero=>intro _;right;left;rfl
 | succ k ih=>
  intro hk;simp only [bA.dL];split
  ·rename_i hL;unfold bA.dS;split
   ·by_cases hm:t∈(r.up k).map (·.1)
    ·right;right;refine ⟨k,by omega,hL,?_⟩;generalize r.dL L k=f;generalize r.up k=l at hm;induction l with
     | nil=>simp at hm
     | cons p l ihl=>
      simp only [ay];by_cases hp:t=p.1
      ·rw [if_pos hp,hp];exact List.mem_cons_self
      ·rw [if_neg hp];simp only [List.map_cons,List.mem_cons] at hm;exact List.mem_cons_of_mem _ (ihl (hm.resolve_left hp))
    ·rw [bA.upds_out hm];exact ih (by omega)
   ·simp only;split
    ·exact .inl rfl
    ·exact ih (by omega)
  ·exact ih (by omega)
theorem aaG (a:Act) (d:Option Tmp) (x:Value):(a.put d x).tmps.size=a.tmps.size:=by cases d<;>simp [Act.put]
theorem put_defers (a:Act) (d:Option Tmp) (x:Value):(a.put d x).defers=a.defers:=by cases d<;>rfl
section
variable {P:Program} {ac:Nat->Nat->Value} {κ0:aH} {w0:World} {N:Nat} {ops:Array Oper} {St:Nat->Stp} {r:bA} {Q:Exit->Act->World->Prop}
theorem Ye {a:Act} {d:Option Tmp} {x:Value} {t:Nat} (h:d≠some t):gm (a.put d x) t=gm a t:=by
 cases d with
 | none=>rfl
 | some d=>
  have:t≠d:=fun he=>h (by rw [he])
  simp [gm,Act.put,Array.getD_eq_getD_getElem?,Array.getElem?_setIfInBounds,Ne.symm this]
theorem ai1 (hok:Pv P N ops St r) {L:Nat->Bool} {a:Act} {w:World} (hinv:RInv ac κ0 w0 N r L a w) {i:Nat} {o:Oper} (ho:ops[i]?=some o) (hi:L i=false)
  (hdown:∀j k,r.bef j k=true->L k=true->L j=true) (hr:∀j,r.bef j i=true->L j=true):Region.wanted o (yielded ops a.tmps)=r.wn i:=by
 have hin:i<r.n:=by rw [hok.n];exact (Array.getElem?_eq_some_iff.1 ho).1
 rw [hok.wn i o ho];unfold Region.wanted;cases hg:o.guard with
 | none=>rfl
 | some p=>
  obtain ⟨j,b⟩:=p;obtain ⟨hb,t,hdj,honly,hT⟩:=hok.guard i o j b ho hg;have hjn:j<r.n:=by have:=hok.lt j i hb;omega
  have hjo:∃oj,ops[j]?=some oj/\oj.dst=some t:=by
   have h1:j<ops.size:=by rw [<-hok.n];exact hjn
   exact ⟨ops[j],by simp [h1],by rw [<-hok.dst j _ (by simp [h1])];exact hdj⟩
  obtain ⟨oj,hoj,hdj'⟩:=hjo;have hyl:yielded ops a.tmps j=match a.tmps[t]? with
   | some (.bool b)=>some b
   | _=>none:=by
   unfold yielded;simp only [hoj,hdj',aa];cases a.tmps[t]? with
   | none=>rfl
   | some x=>cases x<;>rfl
  simp only [hdj,hyl];cases hw:r.wn j with
  | false=>
   have hu:=hinv.und j t hjn (hr j hb) hw hdj honly;simp only [gm,Array.getD_eq_getD_getElem?] at hu;cases ha:a.tmps[t]? with
   | none=>simp
   | some x=>rw [ha] at hu;simp at hu;subst hu;simp [undef]
  | true=>
   obtain ⟨κ,tg,sv,hR,hLe⟩:=hinv.st;have hord:∀k,k<r.n->r.Wd k t->r.bef k i=true\/r.bef i k=true\/k=i:=fun k hk hw'=>by rw [honly k hk hw'];exact .inl hb
   have hd1:=bA.d_loc (r:=r) hok.lt hdown hi hr hord r.n (Nat.le_refl _);have hs1:=bA.s_loc (r:=r) hok.lt hdown hi hr hord r.n (Nat.le_refl _);rw [show min r.n i=i from by omega] at hd1 hs1;rw [hT hw] at hd1;obtain ⟨e1,e2⟩:=hLe.at hd1 (by simp);have h1:=hR.tr t;rw [e1] at h1;simp only [TR] at h1;obtain ⟨as,vs,g1,g2,g3,_,g5⟩:=h1;rw [e2,hs1] at g1;have:=iT g2;subst this;cases as with
   | nil=>simp [ax] at g5
   | cons x as=>
    cases as with
    | cons=>simp [ax] at g5
    | nil=>
     simp only [ax] at g5;cases x with
     | s xs=>simp [RC] at g5
     | v y=>
      simp only [RC,List.getD_cons_zero] at g5;obtain ⟨⟨h2,h3⟩,_⟩:=g5;have hlt:t<a.tmps.size:=by
       rw [hinv.size];apply Nat.lt_of_not_le;intro hle;have:=hR.out t hle;rw [e1] at this;cases this
      have hat:a.tmps[t]?=some y:=by
       simp only [gm,Array.getD_eq_getD_getElem?] at h2;rw [Array.getElem?_eq_getElem hlt] at h2 ⊢;simpa using h2
      rw [hat,g1];cases y<;>simp [sc] at h3 ⊢
theorem aaH (hok:Pv P N ops St r) {L:Nat->Bool} {a:Act} {w:World} (hinv:RInv ac κ0 w0 N r L a w) {i:Nat} (hin:i<r.n) (hi:L i=false)
  (hdown:∀j k,r.bef j k=true->L k=true->L j=true) (hr:∀j,r.bef j i=true->L j=true) (K:Act->World->Prop) (hK:∀a' w',RInv ac κ0 w0 N r (bA.ins L i) a' w'->K a' w'):wpOp P ops Q i K a w:=by
 have h1:i<ops.size:=by rw [<-hok.n];exact hin
 have ho:ops[i]?=some ops[i]:=by simp [h1]
 unfold wpOp;rw [ho];simp only;rw [ai1 hok hinv ho hi hdown hr];have hdis:∀j t,i<j->j<r.n->L j=true->¬(r.Wd i t/\r.Wd j t):=fun j t hij hj hL=>by
  refine hok.disj i j t hij hj ?_;cases hb:r.bef i j with
  | false=>rfl
  | true=>rw [hdown i j hb hL] at hi;cases hi
 have hsi:=fun t=>bA.s_ins (r:=r) hi hdis r.n (Nat.le_refl _) t
 have hdi:=fun t=>bA.d_ins (r:=r) hi hdis r.n (Nat.le_refl _) t
 simp only [if_pos hin] at hsi hdi;obtain ⟨κ,tg,sv,hR,hLe⟩:=hinv.st;have hdst:=hok.dst i _ ho;have hpar:∀x j,r.np j=true->gm (a.put ops[i].dst x) j=r.px j:=by
  intro x j hj;rw [Ye (fun he=>by
   have:=(hok.unw i hin j (by rw [hdst,he])).2
   rw [this] at hj;cases hj)]
  exact hinv.par j hj
 -- what was not run stays so
 have hund:∀x j t,j<r.n->bA.ins L i j=true->r.wn j=false->r.dst j=some t->(∀k,k<r.n->r.Wd k t->k=j)->(j=i->x=undef)->gm (a.put ops[i].dst x) t=undef:=by
  intro x j t hj hLj hwj hd honly hx;by_cases hji:j=i
  ·subst hji;rw [hx rfl,<-hdst,hd,lL (by rw [hinv.size];exact (hok.unw j hj t hd).1),bC]
  ·have hne:ops[i].dst≠some t:=fun he=>hji (honly i hin (.inr (by rw [hdst,he]))).symm
   rw [Ye hne];refine hinv.und j t hj ?_ hwj hd honly;have:(j == i)=false:=by simpa using hji
   simpa [bA.ins,this] using hLj
 cases hw:r.wn i with
 | false=>
  simp only [Bool.false_eq_true,if_false];refine hK _ _ ⟨?_,by rw [aaG];exact hinv.size,by rw [put_defers];exact hinv.defers,hpar undef,fun j t hj hLj hwj hd honly=>hund undef j t hj hLj hwj hd honly fun _=>rfl⟩;cases hd:r.dst i with
  | none=>
   rw [hd] at hdst;refine ⟨κ,tg,sv,by rw [<-hdst,GQ];exact hR,fun t => ?_⟩;rw [hdi t,hsi t];simp only [bA.dS,bA.sS,hw,hd,Bool.false_eq_true,if_false];simpa using hLe t
  | some d=>
   rw [hd] at hdst;have hdN:=(hok.unw i hin d hd).1;refine ⟨_,_,_,by rw [<-hdst,lL (by rw [hinv.size];exact hdN)];exact aiP hR hdN (av:=.n) (x:=undef) (Grows.refl w),fun t => ?_⟩;rw [hdi t,hsi t];simp only [bA.dS,bA.sS,hw,hd,Bool.false_eq_true,if_false,iA,upd];by_cases htd:t=d
   ·subst htd;exact .inl (by simp)
   ·rw [if_neg htd,if_neg htd,if_neg (fun he=>htd (Option.some.inj he).symm)];have hku:=hok.killu i hin hw d hd t htd;have hcase:=aaF (r:=r) (L:=L) (t:=t) r.n (Nat.le_refl _);rcases hLe t with h2|⟨h2,h3⟩
    ·exact .inl h2
    ·rcases hcase with h4|h4|⟨j,hj,hLj,h4⟩
     ·exact .inl h4
     ·right;refine ⟨?_,h3⟩;rw [<-h2,h4,hku.1]
     ·right;refine ⟨?_,h3⟩;have hji:j≠i:=fun he=>by rw [he,hi] at hLj;cases hLj
      have hbf:r.bef i j=false:=by
       cases hb:r.bef i j with
       | false=>rfl
       | true=>rw [hdown i j hb hLj] at hi;cases hi
      rw [<-h2,hku.2 j hj hji hbf _ h4]
 | true=>
  simp only [if_true];left;obtain ⟨g,hstp,hg,hto⟩:=hok.step i _ ho hw;obtain ⟨hrel,hvl⟩:=hok.rel i hin hw;have hord:=fun t ht=>bA.d_loc (r:=r) (t:=t) hok.lt hdown hi hr ht r.n (Nat.le_refl _)
  have hsrd:=fun t ht=>bA.s_loc (r:=r) (t:=t) hok.lt hdown hi hr ht r.n (Nat.le_refl _)
  rw [show min r.n i=i from by omega] at hord hsrd;have hLg:Le g (r.sL (bA.lt i) i) tg sv:=fun t=>by
   rcases hg t with h2|⟨h2,h3⟩
   ·exact .inl h2
   ·rcases hLe t with h4|⟨h4,h5⟩
    ·left;rw [h2,<-hord t h3,h4]
    ·right;exact ⟨by rw [h2,<-hord t h3,h4],by rw [<-hsrd t h3,h5]⟩
  refine hstp ac κ0 κ w0 w tg sv _ a (r.vv i) _ Q hinv.size hR hLg hrel fun x w' κ' tg' sv' hR' htg hsv => ?_
  refine hK _ _ ⟨⟨κ',tg',sv',hR',fun t => ?_⟩,by rw [aaG];exact hinv.size,by rw [put_defers];exact hinv.defers,hpar x,fun j t hj hLj hwj hd honly=>hund x j t hj hLj hwj hd honly fun he=>by rw [he,hw] at hwj;cases hwj⟩;rw [hdi t,hsi t];simp only [bA.dS,bA.sS,hw,if_true];obtain ⟨ks,hks⟩:=hok.up i hin;rw [htg t,hsv t];have hzip:((r.up i).map (·.1)).zip (r.vv i)=((St i).up.map (·.1)).zip (r.vv i):=by
   rw [hks,List.map_append];exact FQ (by simpa using hvl)
  rw [hzip];by_cases hm:t∈(r.up i).map (·.1)
  ·rw [hks] at hm ⊢;rw [Aj];by_cases hm1:t∈(St i).up.map (·.1)
   ·have ht:ay (ay (r.dL L r.n) (ks.map fun t=>(t,TT.dead))) (St i).up t=ay (fun t=>(St i).kl (tg t)) (St i).up t:=bA.upds_in hm1;by_cases hz:t∈(((St i).up.map (·.1)).zip (r.vv i)).map (·.1)
    ·exact .inr ⟨ht,bA.upds_in hz⟩
    ·rcases hto t hm1 hz with h2|h2
     ·left;rw [<-h2];exact bA.upds_in hm1
     ·right;refine ⟨ht,?_⟩;rw [bA.upds_out hz,bA.upds_out hz];rcases hg t with h3|⟨h3,h4⟩
      ·exact absurd h3 h2
      ·rcases hLe t with h5|h5
       ·exact absurd (by rw [h3,<-hord t h4,h5]) h2
       ·exact h5.2
   ·left;rw [bA.upds_out hm1];refine aeD _ ks t ?_;rw [List.map_append,List.mem_append] at hm;simpa using hm.resolve_left hm1
  ·have hm':t∉(St i).up.map (·.1):=fun h=>hm (by rw [hks,List.map_append,List.mem_append];exact .inl h)
   rw [bA.upds_out hm,bA.upds_out hm',bA.upds_out (fun h=>hm' (bA.zip_mem h)),bA.upds_out (fun h=>hm' (bA.zip_mem h))];have hku:=hok.kill i hin hw t hm;have hcase:=aaF (r:=r) (L:=L) (t:=t) r.n (Nat.le_refl _);rcases hLe t with h2|⟨h2,h3⟩
   ·exact .inl h2
   ·rcases hcase with h4|h4|⟨j,hj,hLj,h4⟩
    ·exact .inl h4
    ·right;refine ⟨?_,h3⟩;rw [<-h2,h4,hku.1]
    ·right;refine ⟨?_,h3⟩;have hji:j≠i:=fun he=>by rw [he,hi] at hLj;cases hLj
     have hbf:r.bef i j=false:=by
      cases hb:r.bef i j with
      | false=>rfl
      | true=>rw [hdown i j hb hLj] at hi;cases hi
     rw [<-h2,hku.2 j hj hji hbf _ h4]
end
end Go.Fw
namespace Go.Fw
theorem aaI (S:List Nat):meets S []=false:=by simp [meets]
theorem an9 (T:TT):T.kill [] []=T:=by
 cases T with
 | alias ag cs r sk off S=>
  have:=XT.mens_nil cs;simp [TT.kill,aaI,this]
 | ptr r sk off S=>simp [TT.kill,aaI]
 | val=>simp [TT.kill,GL]
 | box=>simp [TT.kill,GL]
 | tup=>simp [TT.kill,GL]
 | dead=>simp [TT.kill]
section
variable {P:Program} {ac:Nat->Nat->Value} {κ0 κ:aH} {w0 w:World} {N:Nat} {tg:Nat->TT} {sv:Nat->AV} {tm:Nat->Value}
theorem ai2 {w w':World} {S:List Nat} {b:Nat} (hw:w'.heap=w.heap) (h:aW κ w S b):aW κ w' S b:=⟨by rw [hw];exact h.1,h.2⟩
theorem api (h:R ac κ0 w0 κ w N tg sv tm) {w':World} (hh:w'.heap=w.heap) (ho:w'.os=w.os) (hu:w'.output=w.output) (ht:w'.tape=w.tape):R ac κ0 w0 κ w' N tg sv tm:=by
 have hs:∀b,Same w w' b:=fun b=>⟨fun hb=>by rw [hh];exact hb,fun o x hx=>by
  simp only [World.cell?,World.frozen?,hh] at hx ⊢
  exact ⟨hx,trivial⟩⟩
 refine oJ (mods:=[]) (M:=[]) h (by simp) (fun S _ b hb=>⟨ai2 hh hb,hs b⟩) (fun b r q _ hb=>⟨rfl,hs b⟩) (fun r _=>.inl (an9 _).symm) (fun _ _=>rfl) (fun _ _=>rfl) (fun t ht=>by simp at ht) h.out (fun b hb=>h.col b (by rw [<-hh];exact hb)) ?_;exact ⟨by rw [hh];exact h.fr.size,fun b hb h0=>by rw [hh];exact h.fr.kept b hb h0,by rw [ho];exact h.fr.os,by rw [hu];exact h.fr.out,by rw [ht];exact h.fr.tape⟩
end
namespace bA
variable {r:bA}
theorem sL_congr {L L':Nat->Bool} (n:Nat) (h:∀j,j<n->L j=L' j):r.sL L n=r.sL L' n:=by
 induction n with
 | zero=>rfl
 | succ n ih=>simp only [sL];rw [ih fun j hj=>h j (by omega),h n (by omega)]
theorem dL_congr {L L':Nat->Bool} (n:Nat) (h:∀j,j<n->L j=L' j):r.dL L n=r.dL L' n:=by
 induction n with
 | zero=>rfl
 | succ n ih=>simp only [dL];rw [ih fun j hj=>h j (by omega),h n (by omega)]
theorem sL_none (n:Nat) {L:Nat->Bool} (h:∀j,j<n->L j=false):r.sL L n=r.s0:=by
 induction n with
 | zero=>rfl
 | succ n ih=>simp only [sL];rw [h n (by omega),if_neg (by simp)];exact ih fun j hj=>h j (by omega)
theorem dL_none (n:Nat) {L:Nat->Bool} (h:∀j,j<n->L j=false):r.dL L n=r.D0:=by
 induction n with
 | zero=>rfl
 | succ n ih=>simp only [dL];rw [h n (by omega),if_neg (by simp)];exact ih fun j hj=>h j (by omega)
theorem ins_lt (k:Nat):ins (lt k) k=lt (k+1):=by
 funext j;simp only [ins,lt];by_cases h:j=k
 ·subst h;simp
 ·have:(j == k)=false:=by simpa using h
  rw [this,Bool.false_or];congr 1;simp only [eq_iff_iff];omega
end bA
section
variable {P:Program} {ac:Nat->Nat->Value} {κ0:aH} {w0:World} {N:Nat} {ops:Array Oper} {St:Nat->Stp} {r:bA} {Q:Exit->Act->World->Prop}
theorem RInv.congr {L L':Nat->Bool} {a:Act} {w:World} (h:RInv ac κ0 w0 N r L a w) (hL:∀j,j<r.n->L j=L' j):RInv ac κ0 w0 N r L' a w:=by
 refine ⟨?_,h.size,h.defers,h.par,fun j t hj hl hw hd ho=>h.und j t hj (by rw [hL j hj];exact hl) hw hd ho⟩;rw [<-bA.dL_congr (r:=r) r.n hL,<-bA.sL_congr (r:=r) r.n hL];exact h.st
theorem aaJ (hok:Pv P N ops St r) (hQ:∀a w,RInv ac κ0 w0 N r (bA.lt r.n) a w->Q .normal a w) :
  ∀(m k:Nat) (a:Act) (w:World),k+m=r.n->RInv ac κ0 w0 N r (bA.lt k) a w->wpOps P ops Q (List.range' k m) a w
 | 0,k,a,w,hk,h=>by
  simp only [List.range',wpOps];exact hQ a w (by rw [show r.n=k from by omega];exact h)
 | m+1,k,a,w,hk,h=>by
  rw [List.range'_succ,wpOps_cons];refine aaH hok h (i:=k) (by omega) (by simp [bA.lt]) (fun j k' hb hl => ?_) (fun j hb => ?_) _ fun a' w' h' => ?_
  ·have:=hok.lt j k' hb;simp only [bA.lt,decide_eq_true_eq] at hl ⊢;omega
  ·have:=hok.lt j k hb;simp only [bA.lt,decide_eq_true_eq];omega
  ·rw [bA.ins_lt] at h';exact aaJ hok hQ m (k+1) a' w' (by omega) h'
end
end Go.Fw
namespace Go.Fw
def Z7 (o:Oper):Bool:=match o.op with
 | .extract (.tmp _) _=>true
 | .move _=>true
 | _=>false
theorem Zi {P:Program} {ops:Array Oper} {i:Nat} {o:Oper} {a:Act} {w:World} {K:Act->World->Prop} (hi:ops[i]?=some o) (hx:Z7 o=true) (hg:o.guard=none)
  (h:wpOp P ops (fun _ _ _=>False) i K a w):∃v,Yields P ops o v a/\K (a.put o.dst v) w:=by
 have hwt:Region.wanted o (yielded ops a.tmps)=true:=by simp [Region.wanted,hg]
 unfold wpOp at h;simp only [hi,hwt,if_true] at h;have h:o.wp P a w K (fun _ _ _=>False):=by
  rcases h with h|⟨_,_,_,h⟩
  ·exact h
  ·exact h.elim
 unfold Z7 at hx;split at hx;case h_3=>cases hx
 case h_2 x hop=>
  have hr:∀w,(execOp a.eval o).run P w = .ok (.value (a.eval x)) w:=by
   intro w;unfold execOp;rw [hop];rfl
  unfold Oper.wp at h;rw [hr w] at h;exact ⟨_,.inl ⟨hwt,hr⟩,h⟩
 case h_1 t n hop=>
 have hex:execOp a.eval o=(do pure (Next.value (<-Instr.extract (a.eval (.tmp t)) n)):Sem Next):=by
  unfold execOp;rw [hop]
 unfold Oper.wp at h;rw [hex] at h;cases hv:a.eval (.tmp t) with
 | tuple xs=>
  cases hn:xs[n]? with
  | some v=>
   have hr:∀w,(execOp a.eval o).run P w = .ok (.value v) w:=by
    intro w;rw [hex,hv];refine bS ?_;unfold Instr.extract;simp only [hn];rfl
   have h2:=hr w;rw [hex] at h2;rw [h2] at h;exact ⟨v,.inl ⟨hwt,hr⟩,h⟩
  | none=>
   rw [hv] at h;unfold Instr.extract at h;simp only [hn] at h;exact h.elim
 | _=>
  rw [hv] at h;exact h.elim
section
variable {P:Program} {ac:Nat->Nat->Value} {κ0:aH} {w0:World} {N:Nat} {ops:Array Oper} {St:Nat->Stp} {r:bA} {Q:Exit->Act->World->Prop}
theorem alG (hok:Pv P N ops St r) (eg:Nat->Bool)
  (hbd:∀i o j,ops[i]?=some o->r.bef j i=true->(∃e,e∈o.after/\Region.binds .any e=true/\(e.on=j\/r.bef j e.on=true)) \/
   (j<i/\eg j=true/\∀oj,ops[j]?=some oj->∀e,e∈oj.after->Region.binds .any e=true->∃e',e'∈o.after/\Region.binds .any e'=true/\(e'.on=e.on\/r.bef e.on e'.on=true)))
  (hae:∀i o e,ops[i]?=some o->e∈o.after->Region.binds .any e=true->e.on<i)
  (heg:∀i o,ops[i]?=some o->eg i=true->Z7 o=true/\o.guard=none/\∀j oj,ops[j]?=some oj->j≠i->(∀e∈oj.after,Region.binds .any e=true->e.on≠i)->(∀e∈o.after,Region.binds .any e=true->e.on≠j)->o.apart ops oj=true)
  (hsel:∀(j:Nat) (o:Oper) cs b,ops[j]?=some o->o.op≠.select cs b)
  (hpan:∀c a w,¬Q (.panic c) a w) (hQ:∀a w,RInv ac κ0 w0 N r (bA.lt r.n) a w->Q .normal a w) :
  ∀(fuel:Nat) (listed:Array Bool) (a:Act) (w:World),listed.size=ops.size->(∀j k,r.bef j k=true->listed.getD k false=true->listed.getD j false=true) ->
   ((List.range ops.size).filter fun j=>!listed.getD j false).length<=fuel->RInv ac κ0 w0 N r (fun j=>listed.getD j false) a w->wpAny P .any ops Q fuel listed a w:=by
 have done:∀(listed:Array Bool) (a:Act) (w:World),listed.size=ops.size->Region.ready .any ops listed=[]->RInv ac κ0 w0 N r (fun j=>listed.getD j false) a w->Q .normal a w:=by
  intro listed a w hsz hre h;have all:∀j,j<ops.size->listed.getD j false=true:=by
   intro j;induction j using Nat.strongRecOn with
   | ind j ih=>
    intro hj;cases hl:listed.getD j false with
    | true=>rfl
    | false=>
     exfalso;have:j∈Region.ready .any ops listed:=by
      rw [mem_ready];refine ⟨?_,ops[j],by simp [hj],fun e he hb => ?_⟩
      ·simp only [Array.getD_eq_getD_getElem?] at hl ⊢;rw [Array.getElem?_eq_getElem (by omega)] at hl ⊢;simpa using hl
      ·have hlt:=hae j _ e (by simp [hj]) he hb;exact ih e.on hlt (by omega)
     rw [hre] at this;simp at this
  refine hQ a w (h.congr fun j hj => ?_);rw [all j (by rw [<-hok.n];exact hj)];simp [bA.lt,hj]
 intro fuel;induction fuel with
 | zero=>
  intro listed a w hsz hdown hf h;have hre:Region.ready .any ops listed=[]:=by
   rw [List.eq_nil_iff_forall_not_mem];intro i hi;rw [mem_ready] at hi;obtain ⟨h1,o,h2,_⟩:=hi;have hin:i<ops.size:=(Array.getElem?_eq_some_iff.1 h2).1;have h3:i∈(List.range ops.size).filter fun j=>!listed.getD j false:=by
    rw [List.mem_filter,List.mem_range];refine ⟨hin,?_⟩;simp only [Array.getD_eq_getD_getElem?] at h1 ⊢;rw [Array.getElem?_eq_getElem (by omega)] at h1 ⊢;simpa using h1
   have h4:=List.length_eq_zero_iff.1 (Nat.le_zero.1 hf);rw [h4] at h3;simp at h3
  exact ⟨hre,done listed a w hsz hre h⟩
 | succ fuel ih=>
  intro listed a w hsz hdown hf h
  -- one that is ready,ahead of which stand only such as are done
  have go:∀i,i∈Region.ready .any ops listed->(∀j,r.bef j i=true->listed.getD j false=true)->∀(Q':Exit->Act->World->Prop),wpOp P ops Q' i (wpAny P .any ops Q fuel (listed.setIfInBounds i true)) a w:=by
   intro i hi hpre Q';rw [mem_ready] at hi;obtain ⟨h1,o,h2,h3⟩:=hi;have hin:i<ops.size:=(Array.getElem?_eq_some_iff.1 h2).1;have hli:listed.getD i false=false:=by
    simp only [Array.getD_eq_getD_getElem?] at h1 ⊢;rw [Array.getElem?_eq_getElem (by omega)] at h1 ⊢;simpa using h1
   refine aaH hok h (by rw [hok.n];exact hin) hli hdown hpre _ fun a' w' h' => ?_
   have hset:∀j,(listed.setIfInBounds i true).getD j false=(j == i || listed.getD j false):=by
    intro j;simp only [Array.getD_eq_getD_getElem?,Array.getElem?_setIfInBounds];by_cases hji:i=j
    ·subst hji;simp [show i<listed.size by omega]
    ·have:(j == i)=false:=by simpa using Ne.symm hji
     simp [hji,this]
   refine ih _ a' w' (by simpa using hsz) (fun j k hb hl => ?_) ?_ (h'.congr fun j _=>by rw [hset j];rfl)
   ·rw [hset] at hl ⊢;simp only [Bool.or_eq_true,beq_iff_eq] at hl ⊢;rcases hl with rfl|hl
    ·exact .inr (hpre j hb)
    ·exact .inr (hdown j k hb hl)
   ·have hsub:((List.range ops.size).filter fun j=>!(listed.setIfInBounds i true).getD j false).length<((List.range ops.size).filter fun j=>!listed.getD j false).length:=by
     have h4:((List.range ops.size).filter fun j=>!(listed.setIfInBounds i true).getD j false)=((List.range ops.size).filter fun j=>!listed.getD j false).filter fun j=>!(j == i):=by
      rw [List.filter_filter];congr 1;funext j;rw [hset];cases (j == i)<;>simp
     rw [h4];refine List.length_filter_lt_length_iff_exists.2 ⟨i,?_,by simp⟩;rw [List.mem_filter,List.mem_range];exact ⟨hin,by rw [hli];rfl⟩
    omega
  -- of two of them the first is there,or can be done
  have pair:∀i o j,ops[i]?=some o->i∈Region.ready .any ops listed->j<i->(∀oj,ops[j]?=some oj->∀e,e∈oj.after->Region.binds .any e=true->∃e',e'∈o.after/\Region.binds .any e'=true/\(e'.on=e.on\/r.bef e.on e'.on=true)) ->
    listed.getD j false=false->j∈Region.ready .any ops listed:=by
   intro i o j h2 hi hji hde hl;obtain ⟨h1,o',h2',h3⟩:=mem_ready.1 hi;rw [h2] at h2';cases h2';have hjs:j<ops.size:=by
    have:=(Array.getElem?_eq_some_iff.1 h2).1;omega
   rw [mem_ready];refine ⟨?_,ops[j],by simp [hjs],fun e he hb' => ?_⟩
   ·simp only [Array.getD_eq_getD_getElem?] at hl ⊢;rw [Array.getElem?_eq_getElem (by omega)] at hl ⊢;simpa using hl
   ·obtain ⟨e',h4,h5,h6⟩:=hde _ (by simp [hjs]) e he hb';have:=h3 e' h4 h5;rcases h6 with h6|h6
    ·rw [<-h6];exact this
    ·exact hdown _ _ h6 this
  by_cases hE:∃i,i∈Region.ready .any ops listed/\eg i=true
  ·-- the first of them
   have hmin:∀n,(∃i,i<n/\i∈Region.ready .any ops listed/\eg i=true)->∃i,(i∈Region.ready .any ops listed/\eg i=true)/\∀j,j<i->¬(j∈Region.ready .any ops listed/\eg j=true):=by
    intro n;induction n with
    | zero=>rintro ⟨i,h,_⟩;omega
    | succ n ihn=>
     rintro ⟨i,hlt,h1⟩;by_cases hex:∃i,i<n/\i∈Region.ready .any ops listed/\eg i=true
     ·exact ihn hex
     ·have:i=n:=by
       by_cases hin:i<n
       ·exact absurd ⟨i,hin,h1⟩ hex
       ·omega
      subst this;exact ⟨i,h1,fun j hj hc=>hex ⟨j,hj,hc⟩⟩
   obtain ⟨i0,hi0⟩:=hE;obtain ⟨i,⟨hi,hgi⟩,hm⟩:=hmin (i0+1) ⟨i0,by omega,hi0⟩;obtain ⟨h1,o,h2,h3⟩:=mem_ready.1 hi;obtain ⟨hx,hgd,hap⟩:=heg i o h2 hgi;have hpre:∀j,r.bef j i=true->listed.getD j false=true:=by
    intro j hb;rcases hbd i o j h2 hb with ⟨e,he,hbi,hor⟩|⟨hji,hgj,hde⟩
    ·have hl:=h3 e he hbi;rcases hor with rfl|hor
     ·exact hl
     ·exact hdown j e.on hor hl
    ·cases hl:listed.getD j false with
     | true=>rfl
     | false=>exact absurd ⟨pair i o j h2 hi hji hde hl,hgj⟩ (hm j hji)
   obtain ⟨v,hy,hk⟩:=Zi h2 hx hgd (go i hi hpre _);exact wpAny_first h2 hsel (fun c a w h=>absurd h (hpan c _ _)) fuel listed a w (fun j oj hj hne hun hno=>hap j oj hj hne hno fun e he hb' heq=>by
    have:=h3 e he hb'
    rw [heq] at this
    rcases Nat.lt_or_ge j listed.size with h'|h'
    ·simp [h'] at this hun;rw [hun] at this;cases this
    ·simp [Array.getElem?_eq_none h'] at this) hi hy hk
  ·refine ⟨fun hre=>done listed a w hsz hre h,fun i hi => ?_⟩;obtain ⟨h1,o,h2,h3⟩:=mem_ready.1 hi;refine go i hi (fun j hb => ?_) _;rcases hbd i o j h2 hb with ⟨e,he,hbi,hor⟩|⟨hji,hgj,hde⟩
   ·have hl:=h3 e he hbi;rcases hor with rfl|hor
    ·exact hl
    ·exact hdown j e.on hor hl
   ·cases hl:listed.getD j false with
    | true=>rfl
    | false=>exact absurd ⟨j,pair i o j h2 hi hji hde hl,hgj⟩ hE
end
end Go.Fw
namespace Go.Fw
def Eff.pre (f:(Nat->AV)->Option (Nat->AV)):Eff->Eff
 | .det h=>.det fun s=>match f s with
  | some s1=>h s1
  | none=>none
 | .call K sg args post=>.call K sg (fun s=>match f s with
  | some s1=>args s1
  | none=>none) fun res outs s=>match f s with
  | some s1=>post res outs s1
  | none=>none
def Pw (t:Nat) (s:Nat->AV):Option (Nat->AV):=
 match fQ t s with
 | some as=>some (upd s t (.v as []))
 | none=>none
theorem Eff.pre_rel {P:Program} {f:(Nat->AV)->Option (Nat->AV)} {E:Eff} {s:Nat->AV} {v:List AV} (h:(E.pre f).rel P s v):∃s1,f s=some s1/\E.rel P s1 v:=by
 cases E with
 | det h0=>
  simp only [Eff.pre,Eff.rel] at h;split at h
  ·rename_i s1 hs;exact ⟨s1,hs,h⟩
  ·cases h
 | call K sg args post=>
  simp only [Eff.pre,Eff.rel] at h;obtain ⟨as,res,outs,h1,h2,h3⟩:=h;split at h1
  ·rename_i s1 hs;rw [hs] at h3;exact ⟨s1,hs,as,res,outs,h1,h2,h3⟩
  ·cases h1
def Stp.take (t:Nat) (S1 S2:Stp):Stp:=⟨S2.up++S1.up.map (fun p=>(p.1,S2.kl p.2)),fun T=>S2.kl (S1.kl T),t::S2.rd,S2.eff.pre (Pw t)⟩
def xL (g:Nat->TT) (S:Stp):Nat->TT:=ay (fun t=>S.kl (g t)) S.up
theorem an_ {P:Program} {N:Nat} {g:Nat->TT} {o:Oper} {t:Nat} {S1 S2:Stp} (h1:qK N g t=some S1) (hk:S1.kl .dead = .dead) (hk2:S2.kl .dead = .dead) (h2:cK P N o (xL g S1) S2) (ht:t∈S2.up.map (·.1)) (hv:∀s v,S2.eff.rel P s v->v.length<=S2.up.length)  :
  cK P N o g (Stp.take t S1 S2):=by
 intro ac κ0 κ w0 w tg sv s a v next Q hN hR hL hv0 hcont;simp only [Stp.take] at hv0;obtain ⟨s1,hs1,hrel⟩:=Eff.pre_rel hv0;simp only [Pw] at hs1;split at hs1;case h_2=>cases hs1
 case h_1 as has=>
 cases hs1;have hup:∃T1 r T2,S1.up=[(t,T1),(r,T2)]/\t≠r/\S1.eff = .det (fA t)/\g r≠.dead/\g t≠.dead:=by
  unfold qK at h1;split at h1;case h_2=>cases h1
  case h_1 ag cs0 r off S0 hT=>
  split at h1
  ·rename_i gg cs hr;split at h1
   ·rename_i hc;cases h1;exact ⟨_,r,_,rfl,hc.2.2.1,rfl,by rw [hr];simp,by rw [hT];simp⟩
   ·cases h1
  ·rename_i cs hr;split at h1
   ·rename_i hc;cases h1;exact ⟨_,r,_,rfl,hc.2.2.1,rfl,by rw [hr];simp,by rw [hT];simp⟩
   ·cases h1
  ·cases h1
 obtain ⟨T1,r,T2,hup,htr,heff,hgr,hgt⟩:=hup;have hps:=agl (P:=P) h1;obtain ⟨κ',tg',sv',hR',htg',hsv'⟩:=hps ac κ0 κ w0 w tg sv s (gm a) [.v as []] hR hL (by rw [heff];simp [Eff.rel,fA,has]);have hL':Le (xL g S1) (upd s t (.v as [])) tg' sv':=by
  intro u;rw [htg' u,hsv' u];simp only [xL,hup,ay,List.map_cons,List.map_nil,List.zip_cons_cons,List.zip_nil_right,upd];by_cases hut:u=t
  ·simp [hut]
  ·simp only [if_neg hut];by_cases hur:u=r
   ·subst hur;simp only [if_true];right;refine ⟨trivial,?_⟩;rcases hL u with h3|h3
    ·exact absurd h3 hgr
    ·exact h3.2
   ·simp only [if_neg hur];rcases hL u with h3|⟨h3,h4⟩
    ·left;rw [h3,hk]
    ·right;exact ⟨by rw [h3],h4⟩
 refine h2 ac κ0 κ' w0 w tg' sv' _ a v next Q hN hR' hL' hrel fun x w' κ'' tg'' sv'' hR'' htg'' hsv'' => ?_
 have hvl:=hv _ _ hrel;refine hcont x w' κ'' tg'' sv'' hR'' (fun u => ?_) (fun u => ?_)
 ·rw [htg'' u];simp only [Stp.take];rw [Aj];by_cases hu:u∈S2.up.map (·.1)
  ·exact bA.upds_in hu
  ·rw [bA.upds_out hu,bA.upds_out hu,htg' u,hup];simp only [ay,List.map_cons,List.map_nil];split
   ·rfl
   ·split<;>rfl
 ·rw [hsv'' u];simp only [Stp.take];have hz:((S2.up++S1.up.map fun p=>(p.1,S2.kl p.2)).map (·.1)).zip v=(S2.up.map (·.1)).zip v:=by
   rw [List.map_append];exact FQ (by simpa using hvl)
  rw [hz];by_cases hu:u∈((S2.up.map (·.1)).zip v).map (·.1)
  ·exact bA.upds_in hu
  ·rw [bA.upds_out hu,bA.upds_out hu,hsv' u,hup];simp only [ay,List.map_cons,List.map_nil,List.zip_cons_cons,List.zip_nil_right];split
   ·rename_i hut;subst hut;have hal:∃ag cs0 r off S0,g u = .alias ag cs0 r [] off S0:=by
     unfold qK at h1;split at h1
     ·rename_i ag cs0 r off S0 hT;exact ⟨_,_,_,_,_,hT⟩
     ·cases h1
    obtain ⟨ag,cs0,r',off,S0,hT⟩:=hal;obtain ⟨e1,e2⟩:=hL.at hT (by simp);have h5:=hR.tr u;rw [e1] at h5;simp only [TR] at h5;obtain ⟨as',is,vs,gf,ra,row,k1,_,_,_,_,k5,_⟩:=h5;have his:is=[]:=by
     cases is with
     | nil=>rfl
     | cons=>simp [dU] at k5
    subst his;rw [k1];obtain ⟨is2,hs2⟩:=bJ has;rw [e2,hs2] at k1;cases k1;rfl
   ·rfl
end Go.Fw
namespace Go.Fw
def woff:List (Bool × Nat)->Nat->Nat
 | [],_=>0
 | _,0=>0
 | (_,n)::ws,i+1=>n+woff ws i
theorem L9:∀{ws:List (Bool × Nat)} {xs vs:List Value} {i:Nat} {ag:Bool} {n:Nat},pQ ws xs=some vs->ws[i]?=some (ag,n) ->
  ∃x,xs[i]?=some x/\cellsOf ag x=some ((vs.drop (woff ws i)).take n)/\woff ws i+n<=vs.length
 | [],_,_,_,_,_,_,h=>by simp at h
 | _::_,[],_,_,_,_,h,_=>by simp [pQ] at h
 | (g,m)::ws,x::xs,vs,i,ag,n,h,hw=>by
  simp only [pQ] at h;split at h;case h_2=>cases h
  case h_1 a b ha hb=>
  split at h;case isFalse=>cases h
  case isTrue hm=>
  cases h;cases i with
  | zero=>
   simp at hw;obtain ⟨rfl,rfl⟩:=hw;refine ⟨x,by simp,?_,?_⟩
   ·simp only [woff,List.drop_zero];rw [<-hm,List.take_left];exact ha
   ·simp [woff,hm]
  | succ i=>
   obtain ⟨y,h1,h2,h3⟩:=L9 hb (by simpa using hw);refine ⟨y,by simpa using h1,?_,?_⟩
   ·simp only [woff];rw [<-hm,<-List.drop_drop,List.drop_left];exact h2
   ·simp only [woff,bq];omega
def oP (t off n:Nat) (s:Nat->AV):Option (List AV):=(fQ t s).map fun as=>[.v ((as.drop off).take n) []]
def aaK (N:Nat) (g:Nat->TT) (o:Oper):Option Stp:=
 match o.dst,o.op with
 | some d,.extract (.tmp t) i=>match g t with
  | .tup ws cs=>match ws[i]? with
   | some (ag,n)=>if d<N/\t<N/\d≠t/\CT.mens [t] cs=false/\woff ws i+n<=cs.length/\fe ((cs.drop (woff ws i)).take n)=true then
     some ⟨[(d,.val ag ((cs.drop (woff ws i)).take n)),(t,.tup ws (iJ (woff ws i) n cs))],fun T=>T.kill [d,t] [t],[t],.det (oP t (woff ws i) n)⟩ else none
   | none=>none
  | _=>none
 | _,_=>none
theorem ai3 {P:Program} {N:Nat} {g:Nat->TT} {o:Oper} {S:Stp} (h:aaK N g o=some S):cK P N o g S:=by
 unfold aaK at h;split at h;case h_2=>cases h
 case h_1 d t i hd ho=>
 split at h;case h_2=>cases h
 case h_1 ws cs hT=>
 split at h;case h_2=>cases h
 case h_1 ag n hw=>
 split at h;case isFalse=>cases h
 case isTrue hc=>
 obtain ⟨hdN,htN,hdt,hm,hn,hnp⟩:=hc;cases h;intro ac κ0 κ w0 w tg sv s a v next Q hN hR hL hv hcont;simp only [Eff.rel,oP,Option.map_eq_some_iff] at hv;obtain ⟨as,hg,rfl⟩:=hv;obtain ⟨e1,e2⟩:=hL.at hT (by simp);have h1:=hR.tr t;rw [e1] at h1;simp only [TR] at h1;obtain ⟨as',xs,vs,g1,g2,g3,g4,g5⟩:=h1;obtain ⟨is,hs⟩:=bJ hg;rw [e2,hs] at g1;cases g1;obtain ⟨x,hx,hcx,_⟩:=L9 g3 hw;have hR':=aiM hR hdN htN hdt e1 hm hn (g:=ag) (x:=x) (as:=as) (by rw [e2,hs]) hnp (fun xs' vs' k1 k2=>by
  rw [g2] at k1;cases k1
  rw [g3] at k2;cases k2
  exact hcx)
 refine GM (w':=w) (x:=x) ?_ (hcont x w _ _ _ (by rw [hd,lL (a:=a) (by rw [hN];exact hdN)];exact hR') (fun u => ?_) (fun u => ?_))
 ·unfold execOp;rw [ho];simp only;refine bS ?_;have hev:a.eval (.tmp t)=gm a t:=rfl;rw [hev,g2];unfold Instr.extract;simp only;have hx':xs[i]?=some x:=by simpa using hx
  rw [hx'];rfl
 ·simp only [ay,upd]
 ·simp [ay,upd]
end Go.Fw
namespace Go.Fw
theorem RH {κ:aH} {w:World} {e:List CT} {p:Pl} {get:Nat->Value}:∀{l j:Nat} {xs:List (List A)},bO κ w e p j get xs->bO κ w e p (j+l*e.length) get (xs.drop l)
 | 0,j,xs,h=>by simpa using h
 | l+1,j,[],h=>by simp [bO]
 | l+1,j,x::xs,h=>by
  simp only [bO] at h;have:=RH (l:=l) h.2;rw [show j+e.length+l*e.length=j+(l+1)*e.length from by rw [Nat.add_mul];omega] at this;simpa using this
theorem GV {κ:aH} {w:World} {e:List CT} {p:Pl} {get:Nat->Value}:∀{l j:Nat} {xs:List (List A)},bO κ w e p j get xs->bO κ w e p j get (xs.take l)
 | 0,j,xs,h=>by simp [bO]
 | l+1,j,[],h=>by simp [bO]
 | l+1,j,x::xs,h=>by
  simp only [bO] at h;simp only [List.take_succ_cons,bO];exact ⟨h.1,GV h.2⟩
theorem L_ {κ:aH} {w:World} {e:List CT} {p p':Pl} (hn:CT.nowns e=true):∀{xs:List (List A)} {j j':Nat} {get get':Nat->Value},(∀i,i<xs.length*e.length->get' (j'+i)=get (j+i)) ->
  bO κ w e p j get xs->bO κ w e p' j' get' xs
 | [],_,_,_,_,_,_=>by simp [bO]
 | x::xs,j,j',get,get',hg,h=>by
  simp only [bO] at h ⊢;simp only [aX,Nat.add_mul,Nat.one_mul] at hg;refine ⟨iB (P:=fun _=>True) (fun S _ b hb=>⟨hb,Same.refl w b⟩) hn (fJ (fun _=>trivial) e) (fun i hi=>hg i (by omega)) h.1,L_ hn (fun i hi => ?_) h.2⟩;have:=hg (e.length+i) (by omega);rw [show j'+e.length+i=j'+(e.length+i) from by omega,show j+e.length+i=j+(e.length+i) from by omega];exact this
theorem apj {κ:aH} {w:World} {S:List Nat} {e:List CT} {p:Pl} {ao:Option Addr} {n cap l h:Nat} {xs:List (List A)} (hne:CT.nowns e=true) (hr:RC κ w (.sl (.ro S) e) p (.slice ao n cap) (.s xs)) (h1:l<=h) (h2:h<=xs.length) :
  n=xs.length/\h<=cap/\RC κ w (.sl (.ro S) e) p (.slice (if cap=l then ao else ao.map (·.add (l*e.length))) (h-l:Nat) (cap-l)) (.s ((xs.drop l).take (h-l))):=by
 simp only [RC] at hr;obtain ⟨ao',cap',hx,hle,hc⟩:=hr;cases hx;have hlen:((xs.drop l).take (h-l)).length=h-l:=by simp;omega
 refine ⟨rfl,by omega,?_⟩;simp only [RC,hlen];refine ⟨_,_,rfl,by omega,?_⟩;rcases hc with rfl|⟨b,o,rfl,hb,hrd,he⟩
 ·left;simp
 ·by_cases hz:h-l=0
  ·left;rw [hz];simp
  ·right;have hcl:cap≠l:=by omega
   rw [if_neg hcl];refine ⟨b,o+l*e.length,by simp only [Option.map_some];rw [uT],hb,fun q q1 q2=>hrd q (by omega) ?_,?_⟩
   ·have h3:l*e.length+(h-l)*e.length=h*e.length:=by rw [<-Nat.add_mul];congr 1;omega
    have h4:h*e.length<=xs.length*e.length:=Nat.mul_le_mul_right _ h2;omega
   ·have h5:=GV (l:=h-l) (RH (l:=l) he);rw [Nat.zero_add] at h5;refine L_ hne (fun i _ => ?_) h5;show cellD w b _=cellD w b _;congr 1;omega
theorem ai4 {ac:Nat->Nat->Value} {κ0 κ:aH} {w0 w:World} {N:Nat} {tg:Nat->TT} {sv:Nat->AV} {tm:Nat->Value} (h:R ac κ0 w0 κ w N tg sv tm) {d:Nat} (hd:d<N) {S:List Nat} {e:List CT} {p:Pl} {x:Value} {xs:List (List A)}
  (hne:CT.nowns e=true) (hr:RC κ w (.sl (.ro S) e) p x (.s xs)) :
  R ac κ0 w0 (aU κ (fF d) none) w N (iA tg d (.val false [.sl (.ro S) e])) (upd sv d (.v [.s xs] [])) (upd tm d x):=by
 refine jR h hd (Grows.refl w) (fun _ _ h=>by cases h) ?_;have hx:cellsOf false x=some [x]:=by
  simp only [RC] at hr;obtain ⟨ao,cap,rfl,_⟩:=hr;rfl
 have hcl:=fun S b hb=>jF (κ:=κ) (w:=w) (w':=w) (d:=d) (nb:=none) (Grows.refl w) (fun _ _ h=>by cases h) S b hb
 simp only [TR,bC];refine ⟨_,[x],rfl,hx,rfl,fun k j c e' hc => ?_,?_⟩
 ·cases k<;>simp at hc
 ·simp only [ax];exact ⟨Wt (P:=fun _=>True) (fun S _ b hb=>hcl S b hb) (by simpa [CT.nown] using hne) (XX (fun _=>trivial) _) hr,trivial⟩
def wX (s:Nat->AV) (dflt:Nat):Option DX->Option Nat
 | none=>some dflt
 | some X=>match X.get s with
  | some v=>toN v
  | none=>none
def Ma (g:Nat->TT):Option Operand->Option (Option DX)
 | none=>some none
 | some x=>(jU g x).map some
def FR (t:Nat) (lo hi:Option DX) (s:Nat->AV):Option (List AV):=
 match p9 t s with
 | some (xs,_)=>match wX s 0 lo,wX s xs.length hi with
  | some l,some h=>if l<=h/\h<=xs.length then some [.v [.s ((xs.drop l).take (h-l))] []] else none
  | _,_=>none
 | none=>none
def aaL (P:Program) (N:Nat) (g:Nat->TT) (o:Oper):Option Stp:=
 match o.dst,o.op with
 | some d,.slice ty (.tmp t) lo hi none=>match P.underlying ty,oL P g ty 0 (.tmp t),Ma g lo,Ma g hi with
  | some (.slice et),some X,some L,some H=>match P.info? et,X.ag,X.cs with
   | some i,false,[.sl m e]=>
    let S:=t::CT.srcss X.cs
    if d<N/\CT.lives X.cs=true/\i.size=e.length then
     some (Stp.set d (.val false [.sl (.ro S) (CT.roizes S e)]) [t] (.det (FR t L H)))
    else none
   | _,_,_=>none
  | _,_,_,_=>none
 | _,_=>none
theorem GX {ac:Nat->Nat->Value} {κ0 κ:aH} {w0 w:World} {N:Nat} {tg g:Nat->TT} {sv s:Nat->AV} {a:Act} (hR:R ac κ0 w0 κ w N tg sv (gm a)) (hL:Le g s tg sv) {x:Option Operand} {X:Option DX} (hx:Ma g x=some X) {n l:Nat}
  (hb:wX s n X=some l):(x.map a.eval=none/\l=n)\/∃k,x.map a.eval=some (.int k (l:Int)):=by
 cases x with
 | none=>simp only [Ma,aF] at hx;subst hx;simp only [wX,aF] at hb;exact .inl ⟨rfl,hb.symm⟩
 | some x=>
  simp only [Ma,Option.map_eq_some_iff] at hx;obtain ⟨Y,hY,rfl⟩:=hx;simp only [wX] at hb;split at hb
  ·rename_i v hv;obtain ⟨k,m,rfl,h0,rfl⟩:=Rx hb;obtain ⟨e1,_⟩:=p8 hR hL hY hv;exact .inr ⟨k,by simp [e1,Int.toNat_of_nonneg h0]⟩
  ·cases hb
theorem ai5 {P:Program} {N:Nat} {g:Nat->TT} {o:Oper} {S:Stp} (h:aaL P N g o=some S):cK P N o g S:=by
 unfold aaL at h;split at h;case h_2=>cases h
 case h_1 d ty t lo hi hd ho=>
 split at h;case h_2=>cases h
 case h_1 et X L H hty hX hLo hHi=>
 split at h;case h_2=>cases h
 case h_1 i m e hi' hag hcs=>
 simp only at h;split at h;case isFalse=>cases h
 case isTrue hc=>
 obtain ⟨hdN,hlv,hsz⟩:=hc;cases h;intro ac κ0 κ w0 w tg sv s a v next Q hN hR hL hv hcont;simp only [Stp.set,Eff.rel,FR] at hv;split at hv;case h_2=>cases hv
 case h_1 xs is hxs=>
 split at hv;case h_2=>cases hv
 case h_1 l h hl hh=>
 split at hv;case isFalse=>cases hv
 case isTrue hb=>
 cases hv;have hst:=wV hxs;have hXt:X.t=t/\X.get=fQ t:=by
  simp only [oL] at hX;split at hX
  ·cases hX;exact ⟨rfl,rfl⟩
  ·split at hX
   ·cases hX;exact ⟨rfl,rfl⟩
   ·cases hX
  ·cases hX
 obtain ⟨vs,k1,k2,k3,_⟩:=oM hR hL hX (as:=[.s xs]) (by rw [hXt.2];unfold fQ;rw [hst]);rw [hag] at k1;have hvs:=iT k1;subst hvs;rw [hXt.1] at k3;have k4:=Pg (S:=t::CT.srcss X.cs) (p':=(d,[])) (j':=0) (get':=fun k=>[a.eval (.tmp t)].getD k undef) hlv (by simp) (iC fun r hr=>by simp [hr]) (fun _ _=>rfl) k3;rw [hcs] at k4 hlv;simp only [CT.roizes,CT.roize,ax] at k4;obtain ⟨k5,_⟩:=k4;have k5':RC κ w (.sl (.ro (t::CT.srcss X.cs)) (CT.roizes (t::CT.srcss X.cs) e)) (Pl.at (d,[]) 0) (a.eval (.tmp t)) (.s xs):=by
  rw [hcs];simpa using k5
 obtain ⟨ao,cap,hev⟩:=LY (by simp) k5';rw [hev] at k5';obtain ⟨_,hhc,hsub⟩:=apj (kz _ e) k5' hb.1 hb.2;rw [bQ] at hsub;refine fK hd hN hdN (w':=w) ?_ (ai4 hR hdN (kz _ e) hsub) hcont;unfold execOp;rw [ho];simp only;refine bS ?_;rw [hev];have hrun:=XU (P:=P) (t:=ty) (e:=et) (i:=i) (ao:=ao) (len:=xs.length) (cap:=cap) (lo:=lo.map a.eval) (hi:=hi.map a.eval) (l:=l) (h:=h) (w:=w) hty hi' (GX hR hL hLo hl) (GX hR hL hHi hh) hb.1 hhc;rw [hsz] at hrun;simpa using hrun
end Go.Fw
namespace Go.Fw
def mvB (t d:Nat) (p:Pl):Option Pl:=if p.1=t then some (d,p.2) else if p.1=d then none else some p
theorem aoa {ac:Nat->Nat->Value} {κ0 κ:aH} {w0 w:World} {N:Nat} {tg:Nat->TT} {sv:Nat->AV} {tm:Nat->Value} (h:R ac κ0 w0 κ w N tg sv tm) {d t:Nat} (hd:d<N) (htd:t≠d) {cs:List CT} (ht:tg t = .box cs) (hm:CT.mens [t] cs=false)
  {as:List A} (hs:sv t = .v as []) :
  R ac κ0 w0 (aU κ (mvB t d) none) w N (upd (fun u=>if u∈[t] then .dead else (tg u).kill [d,t] [t]) d (.box cs)) (upd sv d (.v as [])) (upd tm d (tm t)):=by
 have htN:t<N:=by
  apply Nat.lt_of_not_le;intro hle;have:=h.out t hle;rw [ht] at this;cases this
 have hM:∀r q p,mvB t d (r,q)=some p->r∉[t]->p=(r,q):=by
  intro r q p hp hr;unfold mvB at hp;simp only [List.mem_singleton] at hr;rw [if_neg hr] at hp;split at hp
  ·cases hp
  ·cases hp;rfl
 refine Wp (mods:=[d,t]) (M:=[t]) h (by have:=h.nle;simp;omega) (Grows.refl w) (fun r q hr => ?_) hM (fun _ _ h=>by cases h) (fun r hr => ?_) (fun r hr => ?_) (fun r hr => ?_) (fun u hu => ?_) (fun u hu => ?_)
 ·simp at hr;simp [mvB,hr]
 ·simp at hr;simp [upd,hr]
 ·simp at hr;simp [upd,hr]
 ·simp at hr;simp [upd,hr]
 ·by_cases hud:u=d
  ·subst hud;have h1:=h.tr t;rw [ht] at h1;simp only [TR,bC] at h1 ⊢;obtain ⟨as',b,g1,g2,g3,g4,g5,g6,g7⟩:=h1;rw [hs] at g1;cases g1;have hat:∀b q,κ b=some (t,q)->aU κ (mvB t u) none b=some (u,q):=fun b q hb=>by simp [aU,hb,mvB]
   refine ⟨as,b,rfl,g2,g3,hat b [] g4,g5,g6,?_⟩;have hs:CT.allSs (fun S=>∀m,m∈[t]->m∉S) cs:=dA (fun S hS=>hS) hm;have:=dQ (f:=id) (κ':=aU κ (mvB t u) none) (w':=w) (p':=(u,[])) (get':=cellD w b) (fun S hS b hb=>jS (Grows.refl w) hM (fun _ _ h=>by cases h) hS b hb) hs (fun i _ b q hb=>⟨by simpa using hat b _ hb,Same.refl w b⟩) (fun _ _=>rfl) g7;rwa [fE] at this
  ·have:u=t:=by simpa [hud] using hu
   subst this;simp [upd,hud,TR]
 ·have h1:u≠d:=by omega
  have h2:u≠t:=by omega
  simp [upd,h1,h2,h.out u hu,TT.kill]
def aaN (N:Nat) (g:Nat->TT) (hint:Bool) (o:Oper):Option Stp:=
 if hint then match o.dst,o.op with
  | some d,.assign (.tmp t)=>match g t with
   | .box cs=>if d<N/\t≠d/\CT.mens [t] cs=false then some (Stp.mv d [t] (.box cs) [t] (.det (fA t))) else none
   | _=>none
  | _,_=>none
 else none
theorem ai6 {P:Program} {N:Nat} {g:Nat->TT} {hint:Bool} {o:Oper} {S:Stp} (h:aaN N g hint o=some S):cK P N o g S:=by
 unfold aaN at h;split at h;case isFalse=>cases h
 split at h;case h_2=>cases h
 case h_1 d t hd ho=>
 split at h;case h_2=>cases h
 case h_1 cs hT=>
 split at h;case isFalse=>cases h
 case isTrue hc=>
 cases h;intro ac κ0 κ w0 w tg sv s a v next Q hN hR hL hv hcont;simp only [Stp.mv,Eff.rel,fA,Option.map_eq_some_iff] at hv;obtain ⟨as,hg,rfl⟩:=hv;obtain ⟨e1,e2⟩:=hL.at hT (by simp);obtain ⟨is,hs⟩:=bJ hg;have h1:=hR.tr t;rw [e1] at h1;simp only [TR] at h1;obtain ⟨as',b,g1,_⟩:=h1;rw [e2,hs] at g1;cases g1;refine rO hd hN hc.1 (w':=w) (x:=gm a t) ?_ (aoa hR hc.1 hc.2.1 e1 hc.2.2 (by rw [e2,hs])) hcont;unfold execOp;rw [ho];rfl
inductive EK where
 | b
 | i
 | s
def jI:List EK->List Value->List Value->Option Bool
 | [],[],[]=>some true
 | .b::ks,.bool a::xs,.bool b::ys=>(jI ks xs ys).map fun r=>(a == b)&&r
 | .i::ks,.int k a::xs,.int k' b::ys=>if k=k' then (jI ks xs ys).map fun r=>(a == b)&&r else none
 | .s::ks,.string a::xs,.string b::ys=>(jI ks xs ys).map fun r=>(a.toList == b.toList)&&r
 | _,_,_=>none
theorem CW:∀{k1 k2:List EK} {xs ys:List Value} {r:Bool},jI (k1++k2) xs ys=some r->∃r1 r2,jI k1 (xs.take k1.length) (ys.take k1.length)=some r1/\jI k2 (xs.drop k1.length) (ys.drop k1.length)=some r2/\r=(r1&&r2)
 | [],k2,xs,ys,r,h=>⟨true,r,by simp [jI],by simpa using h,by simp⟩
 | k::k1,k2,xs,ys,r,h=>by
  simp only [List.cons_append] at h;unfold jI at h;split at h
  ·rename_i h1;cases h1
  ·rename_i ks a xs' b ys' h1;cases h1;simp only [Option.map_eq_some_iff] at h;obtain ⟨r',h2,rfl⟩:=h;obtain ⟨r1,r2,g1,g2,rfl⟩:=CW h2;refine ⟨_,r2,?_,by simpa using g2,(Bool.and_assoc _ _ _).symm⟩;simp only [aX,List.take_succ_cons,jI,g1,Option.map_some]
  ·rename_i ks k0 a xs' k0' b ys' h1;cases h1;split at h;case isFalse=>cases h
   case isTrue hk=>
   simp only [Option.map_eq_some_iff] at h;obtain ⟨r',h2,rfl⟩:=h;obtain ⟨r1,r2,g1,g2,rfl⟩:=CW h2;refine ⟨_,r2,?_,by simpa using g2,(Bool.and_assoc _ _ _).symm⟩;simp only [aX,List.take_succ_cons,jI,hk,g1,Option.map_some,if_true]
  ·rename_i ks a xs' b ys' h1;cases h1;simp only [Option.map_eq_some_iff] at h;obtain ⟨r',h2,rfl⟩:=h;obtain ⟨r1,r2,g1,g2,rfl⟩:=CW h2;refine ⟨_,r2,?_,by simpa using g2,(Bool.and_assoc _ _ _).symm⟩;simp only [aX,List.take_succ_cons,jI,g1,Option.map_some]
  ·cases h
theorem aeE:∀{ks:List EK} {xs ys:List Value} {r:Bool},jI ks xs ys=some r->xs.length=ks.length/\ys.length=ks.length:=by
 intro ks;induction ks with
 | nil=>intro xs ys r h;cases xs<;>cases ys<;>simp [jI] at h;simp
 | cons k ks ih=>
  intro xs ys r h;unfold jI at h;split at h
  ·rename_i h1;cases h1
  ·rename_i h1;cases h1;simp only [Option.map_eq_some_iff] at h;obtain ⟨r',h2,_⟩:=h;have:=ih h2;simp [this.1,this.2]
  ·rename_i h1;cases h1;split at h;case isFalse=>cases h
   simp only [Option.map_eq_some_iff] at h;obtain ⟨r',h2,_⟩:=h;have:=ih h2;simp [this.1,this.2]
  ·rename_i h1;cases h1;simp only [Option.map_eq_some_iff] at h;obtain ⟨r',h2,_⟩:=h;have:=ih h2;simp [this.1,this.2]
  ·cases h
def eqG (P:Program) (K:TypeId->Option (List EK)):List Field->Nat->Option (List EK)
 | [],_=>some []
 | f::fs,off=>match P.info? f.type with
  | some i=>match K f.type,eqG P K fs (off+i.size) with
   | some k1, some k2 => if f.name ≠ "_" ∧ f.offset = off ∧ i.size = k1.length ∧ 0 < k1.length then some (k1 ++ k2) else none
   | _,_=>none
  | none=>none
def Mc (P:Program):Nat->TypeId->Option (List EK)
 | 0,_=>none
 | d+1,t=>match P.underlying t with
  | some .bool=>some [.b]
  | some (.int _)=>some [.i]
  | some .string=>some [.s]
  | some (.struct fs)=>if P.stoodInHeld t=false then eqG P (Mc P d) fs.toList 0 else none
  | _=>none
abbrev eqF (P:Program) (d:Nat):List Field->Nat->Option (List EK):=eqG P (Mc P d)
def valOf (P:Program) (t:TypeId) (xs:List Value):Value:=
 match P.underlying t with
 | some (.struct _)=>.agg xs.toArray
 | _=>xs.getD 0 undef
section
variable {P:Program} {w:World}
theorem aaP {d:Nat} {t:TypeId} {i:TypeInfo} {ks:List EK} (hi:P.info? t=some i) (hk:Mc P d t=some ks) (hsz:i.size=ks.length) {X:Array Value} {off:Nat} (hfit:off+ks.length<=X.size) :
  (part t X off).run P w = .ok (valOf P t ((X.toList.drop off).take ks.length)) w:=by
 cases d with
 | zero=>simp [Mc] at hk
 | succ d=>
  simp only [Mc] at hk;unfold part valOf;have one:∀{g:Bool},rF P t=some g->g=false->ks.length=1->(∀fs,P.underlying t≠some (.struct fs))->((do if <-isAgg t then pure (.agg (X.extract off (off+(<-sizeOf t)))) else match X[off]? with
    | some v=>pure v
    | none => stuck "part: no such cell") : Sem Value).run P w = .ok (match P.underlying t with
    | some (.struct _)=>.agg ((X.toList.drop off).take ks.length).toArray
    | _=>((X.toList.drop off).take ks.length).getD 0 undef) w:=by
   intro g hg hgf hl hns;rw [az (CV hg w)];subst hgf;simp only [Bool.false_eq_true,if_false];have hlt:off<X.size:=by omega
   have h1:X[off]?=some X[off]:=by simp [hlt]
   rw [h1];have h2:((X.toList.drop off).take ks.length).getD 0 undef=X[off]:=by
    rw [bN,List.getElem?_take_of_lt (by omega),List.getElem?_drop];simp [hlt]
   rw [h2];rfl
  split at hk
  ·rename_i hu;cases hk;exact one (g:=false) (by simp [rF,hu]) rfl rfl (by simp [hu])
  ·rename_i k hu;cases hk;exact one (g:=false) (by simp [rF,hu]) rfl rfl (by simp [hu])
  ·rename_i hu;cases hk;exact one (g:=false) (by simp [rF,hu]) rfl rfl (by simp [hu])
  ·rename_i fs hu;rw [az (CV (g:=true) (by simp [rF,hu]) w)];simp only [if_true];rw [az (run_sizeOf hi w),hu];simp only [hsz];show Result.ok (Value.agg (X.extract off (off+ks.length))) w=_;congr 2;apply Array.ext';simp [List.drop_take,Nat.add_sub_cancel_left]
  ·cases hk
theorem aob:∀{d:Nat},(∀{t:TypeId} {ks:List EK} {xs ys:List Value} {r:Bool} (m:Nat),Mc P d t=some ks->jI ks xs ys=some r->(Op.equalIn (m+d) t (valOf P t xs) (valOf P t ys)).run P w = .ok r w) /\
  (∀{fs:List Field} {off:Nat} {ks:List EK} {X Y:Array Value} {r:Bool} (m:Nat),eqF P d fs off=some ks->jI ks (X.toList.drop off) (Y.toList.drop off)=some r->(Op.eqFields (m+d) X Y fs).run P w = .ok r w):=by
 intro d;induction d with
 | zero=>
  refine ⟨fun m hk=>by simp [Mc] at hk,fun {fs} => ?_⟩;induction fs with
  | nil=>
   intro off ks X Y r m hf hv;simp only [eqG,aF] at hf;subst hf;cases hx:X.toList.drop off<;>cases hy:Y.toList.drop off<;>rw [hx,hy] at hv<;>simp [jI] at hv;subst hv;rfl
  | cons f fs ih=>
   intro off ks X Y r m hf hv;simp only [eqG,Mc] at hf;split at hf
   ·cases hf
   ·cases hf
 | succ d ih=>
  have hK:∀{t:TypeId} {ks:List EK} {xs ys:List Value} {r:Bool} (m:Nat),Mc P (d+1) t=some ks->jI ks xs ys=some r->(Op.equalIn (m+(d+1)) t (valOf P t xs) (valOf P t ys)).run P w = .ok r w:=by
   intro t ks xs ys r m hk hv;simp only [Mc] at hk;split at hk
   ·rename_i hu;cases hk;unfold jI at hv;split at hv
    ·rename_i h1;cases h1
    ·rename_i h1;cases h1;simp only [Option.map_eq_some_iff] at hv;obtain ⟨r',h2,rfl⟩:=hv;rename_i a xs b ys;cases xs<;>cases ys<;>simp [jI] at h2;subst h2;simp only [valOf,hu,List.getD_cons_zero,Bool.and_true];exact run_equalIn_bool w _ t _ _ hu
    ·rename_i h1;cases h1
    ·rename_i h1;cases h1
    ·cases hv
   ·rename_i k hu;cases hk;unfold jI at hv;split at hv
    ·rename_i h1;cases h1
    ·rename_i h1;cases h1
    ·rename_i h1;cases h1;split at hv;case isFalse=>cases hv
     case isTrue hkk=>
     subst hkk;simp only [Option.map_eq_some_iff] at hv;obtain ⟨r',h2,rfl⟩:=hv;rename_i k0 a xs b ys;cases xs<;>cases ys<;>simp [jI] at h2;subst h2;simp only [valOf,hu,List.getD_cons_zero,Bool.and_true];exact run_equalIn_int w _ t _ _ _ _ hu
    ·rename_i h1;cases h1
    ·cases hv
   ·rename_i hu;cases hk;unfold jI at hv;split at hv
    ·rename_i h1;cases h1
    ·rename_i h1;cases h1
    ·rename_i h1;cases h1
    ·rename_i h1;cases h1;simp only [Option.map_eq_some_iff] at hv;obtain ⟨r',h2,rfl⟩:=hv;rename_i a xs b ys;cases xs<;>cases ys<;>simp [jI] at h2;subst h2;simp only [valOf,hu,List.getD_cons_zero,Bool.and_true];exact run_equalIn_string w _ t _ _ hu
    ·cases hv
   ·rename_i fs hu;split at hk;case isFalse=>cases hk
    case isTrue hst=>
    have hfo:P.fieldsOf t=fs:=by unfold Program.fieldsOf;rw [hu]
    have:=run_equalIn_struct (P:=P) w (m+d) t xs.toArray ys.toArray (by rw [hfo];exact hu) hst;simp only [valOf,hu];rw [show m+(d+1)=m+d+1 from rfl,this,hfo];exact ih.2 m hk (by simpa using hv)
   ·cases hk
  refine ⟨hK,fun {fs} => ?_⟩;induction fs with
  | nil=>
   intro off ks X Y r m hf hv;simp only [eqG,aF] at hf;subst hf;cases hx:X.toList.drop off<;>cases hy:Y.toList.drop off<;>rw [hx,hy] at hv<;>simp [jI] at hv;subst hv;rfl
  | cons f fs ihf=>
   intro off ks X Y r m hf hv;simp only [eqG] at hf;split at hf;case h_2=>cases hf
   case h_1 i hi=>
   split at hf;case h_2=>cases hf
   case h_1 k1 k2 hk1 hk2=>
   split at hf;case isFalse=>cases hf
   case isTrue hc=>
   cases hf;obtain ⟨hnm,hoff,hsz,hpos⟩:=hc;obtain ⟨r1,r2,g1,g2,rfl⟩:=CW hv;have hlx:=(aeE hv).1;have hly:=(aeE hv).2;simp only [List.length_drop,bq,Array.length_toList] at hlx hly;have hfx:off+k1.length<=X.size:=by omega
   have hfy:off+k1.length<=Y.size:=by omega
   have p1:=aaP (P:=P) (w:=w) (X:=X) (off:=off) hi hk1 hsz hfx;have p2:=aaP (P:=P) (w:=w) (X:=Y) (off:=off) hi hk1 hsz hfy;have p3:=hK m hk1 g1;simp only [Op.eqFields,hnm,ne_eq,not_false_eq_true,if_true];rw [hoff,az p1,az p2,az p3];cases r1 with
   | false=>rfl
   | true=>
    simp only [bz,Bool.false_eq_true,if_false,Bool.true_and];refine ihf m hk2 ?_;rw [hsz];simpa [List.drop_drop] using g2
end
def FU:List A->Option (List Value)
 | []=>some []
 | .v x::as=>(FU as).map (x :: ·)
 | _=>none
theorem WB:∀vs:List Value,FU (vs.map .v)=some vs
 | []=>rfl
 | v::vs=>by simp [FU,WB vs]
def TL (ks:List EK) (X Y:(Nat->AV)->Option (List A)) (ne:Bool) (s:Nat->AV):Option (List AV):=
 match X s,Y s with
 | some as,some bs=>match FU as,FU bs with
  | some xs,some ys=>match jI ks xs ys with
   | some r=>some [.v [.v (.bool (if ne then !r else r))] []]
   | none=>none
  | _,_=>none
 | _,_=>none
def aaQ (P:Program) (N:Nat) (g:Nat->TT) (o:Oper):Option Stp:=
 match o.dst,o.op with
 | some d,.binOp op t x y _=>match P.underlying t,Mc P 12 t,oL P g t 0 x,oL P g t 1 y with
  | some (.struct _),some ks,some X,some Y=>
   if d<N/\(op = .eql\/op = .neq)/\X.ag=true/\Y.ag=true/\mh X.cs=true/\mh Y.cs=true/\P.eqGuardType P.depth t=false then
    some (Stp.set d (.val false [.d]) (X.rd++Y.rd) (.det (TL ks X.get Y.get (decide (op = .neq)))))
   else none
  | _,_,_,_=>none
 | _,_=>none
theorem aeF {κ:aH} {w:World} {p:Pl} {cs:List CT} {vs:List Value} {as:List A} (hl:vs.length=cs.length) (hd:mh cs=true) (h:ax κ w cs p 0 (fun k=>vs.getD k undef) as):as=vs.map .v:=by
 obtain ⟨h1,_⟩:=Ry hd h;simp only [Nat.zero_add] at h1;have hvs:(List.range cs.length).map (fun k=>vs.getD k undef)=vs:=by
  apply List.ext_getElem
  ·simp [hl]
  ·intro k hk hk';simp [bN,aR hk']
 rw [hvs] at h1;exact h1
theorem ai7 {x:Value} {vs:List Value} (h:cellsOf true x=some vs):x = .agg vs.toArray:=by
 cases x<;>simp [cellsOf] at h;subst h;simp
theorem ai8 {P:Program} {N:Nat} {g:Nat->TT} {o:Oper} {S:Stp} (h:aaQ P N g o=some S):cK P N o g S:=by
 unfold aaQ at h;split at h;case h_2=>cases h
 case h_1 d op t x y u hd ho=>
 split at h;case h_2=>cases h
 case h_1 fs ks X Y hu hk hX hY=>
 split at h;case isFalse=>cases h
 case isTrue hc=>
 cases h;obtain ⟨hdN,hop,hxa,hya,hxd,hyd,hgt⟩:=hc;intro ac κ0 κ w0 w tg sv s a v next Q hN hR hL hv hcont;simp only [Stp.set,Eff.rel,TL] at hv;split at hv;case h_2=>cases hv
 case h_1 as bs has hbs=>
 split at hv;case h_2=>cases hv
 case h_1 xs ys hxs hys=>
 split at hv;case h_2=>cases hv
 case h_1 r hr=>
 cases hv;obtain ⟨vs,a1,a2,a3,_⟩:=oM hR hL hX has;obtain ⟨ws,b1,b2,b3,_⟩:=oM hR hL hY hbs;have e1:=aeF a2 hxd a3;have e2:=aeF b2 hyd b3;rw [e1,WB] at hxs;rw [e2,WB] at hys;cases hxs;cases hys;rw [hxa] at a1;rw [hya] at b1;have va:=ai7 a1;have vb:=ai7 b1;have heq:=(aob (P:=P) (w:=w) (d:=12)).1 (10000-12) hk hr;simp only [valOf,hu] at heq;refine fK hd hN hdN (w':=w) (x:=.bool (if decide (op = .neq) then !r else r)) ?_ (LP hR hdN rfl (Grows.refl w)) hcont;unfold execOp;rw [ho];simp only;refine bS ?_;rw [va,vb,az (run_eqGuard_agg (P:=P) w op t x y _ _ hgt)];rcases hop with rfl|rfl
 ·rw [run_eql_struct,heq];rfl
 ·rw [run_neq_struct,heq];rfl
def bytesOf:List (List A)->Option (List Int)
 | []=>some []
 | [.v (.int .u8 n)]::xs=>(bytesOf xs).map (n :: ·)
 | _=>none
def dw (ns:List Int):ByteArray:=ns.foldl (fun r n=>r.push (UInt8.ofNat n.toNat)) ByteArray.empty
def GY (t:Nat) (s:Nat->AV):Option (List AV):=
 match p9 t s with
 | some (xs,_)=>match bytesOf xs with
  | some ns=>some [.v [.v (.string (dw ns))] []]
  | none=>none
 | none=>none
def RI (P:Program) (N:Nat) (g:Nat->TT) (o:Oper):Option Stp:=
 match o.dst,o.op with
 | some d,.convert src dst x=>match P.underlying src,P.underlying dst,aav g x with
  | some (.slice e),some .string,some (t,[.d])=>match P.underlying e with
   | some (.int .u8)=>if d<N then some (Stp.set d (.val false [.d]) [t] (.det (GY t))) else none
   | _=>none
  | _,_,_=>none
 | _,_=>none
theorem Qf {κ:aH} {w:World} {p:Pl} {get:Nat->Value}:∀{xs:List (List A)} {ns:List Int} {j:Nat},bytesOf xs=some ns->bO κ w [.d] p j get xs->ns.length=xs.length/\∀k n,ns[k]?=some n->get (j+k) = .int .u8 n
 | [],ns,j,h,_=>by simp only [bytesOf,aF] at h;subst h;simp
 | x::xs,ns,j,h,hr=>by
  unfold bytesOf at h;split at h
  ·rename_i h1;cases h1
  ·rename_i n xs' h1;cases h1;simp only [Option.map_eq_some_iff] at h;obtain ⟨ms,h2,rfl⟩:=h;simp only [bO,ax,RC] at hr;obtain ⟨h3,h4⟩:=Qf h2 hr.2;refine ⟨by simp [h3],fun k m hk => ?_⟩;cases k with
   | zero=>simp at hk;subst hk;simpa using hr.1.1.1
   | succ k=>
    have:=h4 k m (by simpa using hk);rw [show j+(k+1)=j+[CT.d].length+k from by simp;omega];exact this
  ·cases h
theorem adn {P:Program} {N:Nat} {g:Nat->TT} {o:Oper} {S:Stp} (h:RI P N g o=some S):cK P N o g S:=by
 unfold RI at h;split at h;case h_2=>cases h
 case h_1 d src dst x hd ho=>
 split at h;case h_2=>cases h
 case h_1 e t hs hds hx=>
 split at h;case h_2=>cases h
 case h_1 he=>
 split at h;case isFalse=>cases h
 case isTrue hdN=>
 cases h;intro ac κ0 κ w0 w tg sv s a v next Q hN hR hL hv hcont;simp only [Stp.set,Eff.rel,GY] at hv;split at hv;case h_2=>cases hv
 case h_1 xs is hxs=>
 split at hv;case h_2=>cases hv
 case h_1 ns hns=>
 cases hv;obtain ⟨_,ao,cap,hev,hrow⟩:=aev hR hL hx hxs;refine fK hd hN hdN (w':=w) (x:=.string (dw ns)) ?_ (LP hR hdN rfl (Grows.refl w)) hcont;unfold execOp;rw [ho];simp only;refine bS ?_;rw [hev,run_convert_bytes_string w src dst e ao xs.length cap hs he hds];rcases hrow with rfl|⟨b,off,rfl,hrd,hre⟩
 ·simp only [bytesOf,aF] at hns;subst hns;cases ao with
  | none=>rfl
  | some ad=>
   have:=run_bytesToString (P:=P) w ad 0 cap [] (by rfl);exact this
 ·obtain ⟨hl,hc⟩:=Qf hns hre;refine run_bytesToString (P:=P) w _ xs.length cap ns ?_;rw [run_loadCells (by simpa using hrd)];congr 2;apply List.ext_getElem
  ·simp [hl]
  ·intro k hk hk';have hkn:k<ns.length:=by simpa using hk'
   have:=hc k ns[k] (by simp [hkn]);simp only [Nat.zero_add] at this;simp [this]
def WE (P:Program) (N:Nat) (g:Nat->TT) (hint:Bool) (o:Oper):Option Stp:=
 if hint then match o.dst,o.op with
  | some d,.slice ty (.tmp t) lo hi none=>match P.underlying ty,g t,Ma g lo,Ma g hi with
   | some (.slice et),.val false [.sl (.own pin) e],some L,some H=>match P.info? et with
    | some i=>if d<N/\t<N/\i.size=e.length/\CT.mens [t] [.sl (.own pin) e]=false/\(lo=none\/CT.nowns e=true) then
      some (Stp.mv d [t] (.val false [.sl (.own none) e]) [t] (.det (FR t L H))) else none
    | none=>none
   | _,_,_,_=>none
  | _,_=>none
 else none
theorem ags {P:Program} {N:Nat} {g:Nat->TT} {hint:Bool} {o:Oper} {S:Stp} (h:WE P N g hint o=some S):cK P N o g S:=by
 unfold WE at h;split at h;case isFalse=>cases h
 split at h;case h_2=>cases h
 case h_1 d ty t lo hi hd ho=>
 split at h;case h_2=>cases h
 case h_1 et pin e L H hty hT hLo hHi=>
 split at h;case h_2=>cases h
 case h_1 i hi'=>
 split at h;case isFalse=>cases h
 case isTrue hc=>
 obtain ⟨hdN,htN,hsz,hm,hpre⟩:=hc;cases h;intro ac κ0 κ w0 w tg sv s a v next Q hN hR hL hv hcont;simp only [Stp.mv,Eff.rel,FR] at hv;split at hv;case h_2=>cases hv
 case h_1 xs is hxs=>
 split at hv;case h_2=>cases hv
 case h_1 l h hl hh=>
 split at hv;case isFalse=>cases hv
 case isTrue hb=>
 cases hv;have hst:=wV hxs;obtain ⟨e1,e2⟩:=hL.at hT (by simp);have h1:=hR.tr t;rw [e1] at h1;simp only [TR] at h1;obtain ⟨as,vs,g1,g2,g3,_,g5⟩:=h1;rw [e2,hst] at g1;cases g1;have:=iT g2;subst this;have g5':=g5;simp only [ax] at g5;obtain ⟨hrc,_⟩:=g5;simp only [RC] at hrc;obtain ⟨ao,cap,hx,hle,hcase⟩:=hrc;simp only [List.getD_cons_zero] at hx;have hlen:((xs.drop l).take (h-l)).length=h-l:=by rw [List.length_take,List.length_drop];omega
 have hev:a.eval (.tmp t) = .slice ao xs.length cap:=hx;have hrun:=XU (P:=P) (t:=ty) (e:=et) (i:=i) (ao:=ao) (len:=xs.length) (cap:=cap) (lo:=lo.map a.eval) (hi:=hi.map a.eval) (l:=l) (h:=h) (w:=w) hty hi' (GX hR hL hLo hl) (GX hR hL hHi hh) hb.1 (by omega);have hne:t≠FB:=Nat.ne_of_lt (Nat.lt_of_lt_of_le htN hR.nle);have hnf:FB∉[t]:=fun hm=>hne (List.mem_singleton.1 hm).symm
 refine rO hd hN hdN (w':=w) (x:=.slice (if cap=l then ao else ao.map (·.add (l*i.size))) (h-l:Nat) (cap-l)) ?_ (z8 (f:=fun _ k=>some [k]) (nb:=none) hR hdN hnf (Grows.refl w) (fun _ _ h=>by cases h) rfl ?_) hcont
 ·unfold execOp;rw [ho];simp only;refine bS ?_;rw [hev];simpa using hrun
 ·simp only [TR,bC];refine ⟨_,[_],rfl,rfl,rfl,dV rfl,?_⟩;simp only [ax,RC,List.getD_cons_zero,hlen];refine ⟨⟨_,_,rfl,by omega,?_⟩,trivial⟩;rcases hcase with ⟨rfl,rfl⟩|⟨b,off,rfl,hbs,hκ,hw,he⟩
  ·left;have:l=0:=by omega
   subst this;simp
  ·right;have hκ':aU κ (oz [t] d fun _ k=>some [k]) none b=some (d,[0]):=by
    simp only [Pl.at,List.nil_append] at hκ;simp [aU,hκ,oz]
   have hro:∀S,(∀m,m∈[t]->m∉S)->∀b,aW κ w S b->aW (aU κ (oz [t] d fun _ k=>some [k]) none) w S b/\Same w w b:=fun S hS b hb=>jS (Grows.refl w) af_ (fun _ _ h=>by cases h) hS b hb
   have hse:CT.allSs (fun S=>∀m,m∈[t]->m∉S) e:=by
    refine dA (fun S hS=>hS) ?_;simpa [CT.mens,CT.men] using hm
   by_cases hcl:cap=l
   ·rw [if_pos hcl];have hz:h-l=0:=by omega
    refine ⟨b,off,rfl,hbs,by simpa [Pl.at] using hκ',fun q q1 q2 => ?_,?_⟩
    ·rw [hcl] at q2;simp at q2;omega
    ·rw [hz];simp [bO]
   ·rw [if_neg hcl];refine ⟨b,off+l*i.size,by simp only [Option.map_some];rw [uT],hbs,by simpa [Pl.at] using hκ',?_,?_⟩
    ·rw [hsz];refine hw.sub (by omega) ?_;have:l*e.length+(cap-l)*e.length=cap*e.length:=by rw [<-Nat.add_mul];congr 1;omega
     omega
    ·rw [hsz];by_cases hl0:l=0
     ·subst hl0;have h5:=GV (l:=h-0) he;have h6:=GI (f:=id) (κ':=aU κ (oz [t] d fun _ k=>some [k]) none) (w':=w) (p':=Pl.at (d,[]) 0) hro hse (fun b q hb=>⟨?_,Same.refl w b⟩) h5
      ·rw [fE] at h6;simpa using h6
      ·simp only [Pl.at,List.nil_append,List.singleton_append] at hb ⊢;simp [aU,hb,oz]
     ·have hno:CT.nowns e=true:=by
       rcases hpre with hp|hp
       ·exfalso;rw [hp] at hLo;simp only [Ma,aF] at hLo;subst hLo;simp only [wX,aF] at hl;exact hl0 hl.symm
       ·exact hp
      have h5:=GV (l:=h-l) (RH (l:=l) he);rw [Nat.zero_add] at h5;have h6:=L_ (p':=Pl.at (d,[]) 0) (j':=0) (get':=fun j=>cellD w b (off+l*e.length+j)) hno (fun q _=>by
       show cellD w b _=cellD w b _
       congr 1;omega) h5
      exact Rs hro hno hse h6
end Go.Fw
namespace Go.Fw
def yR (r:Nat) (P:List Nat) (base n:Nat) (srcs:List Nat) (p:Pl):Option Pl:=
 if p.1=r then (if (List.range n).any (fun k=>(P++[base+k]).isPrefixOf p.2) then none else some p)
 else if p.1∈srcs then match p.2 with
  | k::q=>some (r,P++(base+k)::q)
  | []=>none
 else some p
theorem aqN {r base n:Nat} {P:List Nat} {srcs:List Nat}:∀r' q p,yR r P base n srcs (r',q)=some p->r'∉r::srcs->p=(r',q):=by
 intro r' q p h hr;simp only [List.mem_cons,not_or] at hr;simp only [yR,hr.1,hr.2,if_false] at h;cases h;rfl
theorem GZ {r base n:Nat} {P q:List Nat} {srcs:List Nat} (h:∀k,k<n->¬P++[base+k] <+: q):yR r P base n srcs (r,q)=some (r,q):=by
 simp only [yR,if_true];rw [if_neg];simp only [List.any_eq_true,List.mem_range,not_exists,not_and];intro k hk hh;exact h k hk (List.isPrefixOf_iff_prefix.1 hh)
section
variable {ac:Nat->Nat->Value} {κ0 κ:aH} {w0 w w':World} {N:Nat} {tg:Nat->TT} {sv:Nat->AV} {tm:Nat->Value}
theorem alH (h:R ac κ0 w0 κ w N tg sv tm) {r:Nat} (hrN:r<N) {cs e:List CT} {sk:Sk} {is S:List Nat} {B O off:Nat} (ht:(tg r).cts=some cs) {ra row:List A} (hs:sv r = .v ra [])
  (hp:FL κ w tg tm r sk is S B O) (hsk:sk≠[]) (he:eU true cs sk=some e) (hl:bG ra sk is=some row) {srcs:List Nat} (hsf:FB∉srcs) (hsr:r∉srcs) {t:Nat} {cv:List CT} {vs:List Value} {as:List A}
  (hv:Part κ w srcs t cv vs as) (hn:off+cv.length<=e.length) (hle:CT.les cv ((e.drop off).take cv.length)=true) (hm:CT.mens (r::srcs) cs=false) (hmv:CT.mens (r::srcs) cv=false) (htr:t∈srcs\/t=r\/True) :
  Wrb w B (O+off) (O+off+vs.length) /\
  R ac κ0 w0 (aU κ (yR r (bD [] 0 sk is).1 ((bD [] 0 sk is).2+off) cv.length srcs) none) (bB w B (O+off) vs) N (upd (fun u=>if u∈srcs then .dead else (tg u).kill (r::srcs) (r::srcs)) r (tg r))
   (upd sv r (.v (jd ra sk is (splice row off as)) [])) tm:=by
 have hvl:=hv.len;have hroot:=h.root ht hs;obtain ⟨b0,o,g1,hκB,hW,hrow⟩:=zZ (bo:=(rb (tg r) (tm r)).map fun b=>(b,0)) hsk hroot he hl;have ha:=hp.addr;simp only [eY] at ha;simp only [Nat.zero_add] at g1;rw [ha] at g1;simp only [aF,Prod.mk.injEq] at g1;obtain ⟨rfl,rfl⟩:=g1;have his:is≠[]:=by
  rintro rfl;cases sk with
  | nil=>exact hsk rfl
  | cons s sk=>cases s;simp [bG] at hl
 have hPne:(bD [] 0 sk is).1≠[]:=by simp [aiN (sk:=sk) (is:=is) (p:=[]) (j:=0) hsk his]
 generalize hP:(bD [] 0 sk is).1=P at *
 generalize hj:(bD [] 0 sk is).2=j at *
 have hfacts:=jk vs w B (o+j+off);have hsz:(bB w B (o+j+off) vs).heap.size=w.heap.size:=hfacts.1;have hcol:∀b p,κ b=some p->aU κ (yR r P (j+off) cv.length srcs) none b=yR r P (j+off) cv.length srcs p:=fun b p hb=>mY (fun _ _ h=>by cases h) h.col hb
 have hWn:Wrb w B (o+j+off) (o+j+off+vs.length):=hW.sub (by omega) (by omega);refine ⟨hWn,?_⟩;have hneB:∀S,(∀m,m∈r::srcs->m∉S)->∀b,aW κ w S b->b≠B:=by
  rintro S hS b hb rfl;exact hS r (by simp) (hb.2 _ _ hκB).1
 have hro:∀S,(∀m,m∈r::srcs->m∉S)->∀b,aW κ w S b->aW (aU κ (yR r P (j+off) cv.length srcs) none) (bB w B (o+j+off) vs) S b/\Same w (bB w B (o+j+off) vs) b:=
  fun S hS b hb=>by
   have h1:=jS (F:=yR r P (j+off) cv.length srcs) (nb:=none) (Grows.refl w) aqN (fun _ _ h=>by cases h) hS b hb;exact ⟨⟨by rw [hsz];exact h1.1.1,h1.1.2⟩,bZ (hneB S hS b hb)⟩
 have hκB':aU κ (yR r P (j+off) cv.length srcs) none B=κ B:=by
  rw [hcol B _ hκB,hκB];refine GZ fun k hk hh => ?_
  have:=hh.length_le;rw [bq,List.length_singleton] at this;omega
 -- the value,moved
 have hval:ax (aU κ (yR r P (j+off) cv.length srcs) none) (bB w B (o+j+off) vs) cv (r,P) (j+off) (fun k=>vs.getD (k-(j+off)) undef) as:=by
  by_cases hts:t∈srcs
  ·have hne:t≠r:=by rintro rfl;exact hsr hts
   have:=dQ (f:=id) (P:=fun S=>∀m,m∈r::srcs->m∉S) (κ':=aU κ (yR r P (j+off) cv.length srcs) none) (w':=bB w B (o+j+off) vs) (p':=(r,P)) (j':=j+off) (get':=fun k=>vs.getD (k-(j+off)) undef) hro
    (dA (fun S hS=>hS) hmv) (fun i hi b q hb=>⟨?_,bZ ?_⟩) (fun i hi=>by simp) hv.row
   ·rwa [fE] at this
   ·rw [hcol b _ hb];simp [yR,hne,hts]
   ·rintro rfl;rw [hκB] at hb;simp only [aF,Prod.mk.injEq] at hb;exact hne hb.1.symm
  ·exact iB (P:=fun S=>∀m,m∈r::srcs->m∉S) hro (hv.own.resolve_left hts) (dA (fun S hS=>hS) hmv) (fun i hi=>by simp) hv.row
 have hme:=wS hm he;have hlen:=bU hrow;have hlas:=bU hv.row;have hrow':ax (aU κ (yR r P (j+off) cv.length srcs) none) (bB w B (o+j+off) vs) e (r,P) j (fun k=>cellD (bB w B (o+j+off) vs) B (o+k)) (splice row off as):=by
  refine jN (by rw [iR (by omega)];exact hlen) fun k c a hc ha => ?_
  rw [jT (by omega)] at ha;have hk:=(aY hc).1;by_cases hin:off<=k/\k<off+cv.length
  ·rw [if_neg (by omega),if_pos (by omega)] at ha;have hh:=eH (rP hle hval) (k:=k-off) (c:=c) (a:=a) (by rw [List.getElem?_take_of_lt (by omega),List.getElem?_drop,show off+(k-off)=k from by omega];exact hc) ha;have hcell:=wE (w:=w) (b:=B) (o:=o+j+off) (vs:=vs) hWn (k-off) (by omega);rw [show j+off+(k-off)=j+k from by omega] at hh;rw [show o+j+off+(k-off)=o+(j+k) from by omega] at hcell;rw [hcell];have e2:vs.getD (j+k-(j+off)) undef=vs[k-off]'(by omega):=by
    rw [show j+k-(j+off)=k-off from by omega];simp [bN,aR (show k-off<vs.length by omega)]
   simp only [e2] at hh;first
    | exact hh
    | (rw [bN,aR (by omega)];exact hh)
  ·have ha':row[k]?=some a:=by
    by_cases h1:k<off
    ·rwa [if_pos h1] at ha
    ·rw [if_neg h1,if_neg (by omega)] at ha;exact ha
   have h0:=eH hrow hc ha';have hcell:cellD (bB w B (o+j+off) vs) B (o+(j+k))=cellD w B (o+(j+k)):=by
    unfold cellD;rw [eZ,if_neg];rintro ⟨_,h1,h2⟩;exact hin ⟨by omega,by omega⟩
   rw [hcell];refine qG (uS (fun S hS b hb=>hro S hS b hb) (pY hme hc)) (fun b q hb=>⟨?_,bZ ?_⟩) h0
   ·rw [hcol b _ hb,hb];refine GZ fun m hm' hpre => ?_
    simp only [Pl.at] at hpre;rw [List.append_assoc] at hpre;have:=jO (p:=P) (q:=q) (x:=j+off+m) (y:=j+k) (by simpa using hpre);exact hin ⟨by omega,by omega⟩
   ·rintro rfl;rw [hκB] at hb;simp [Pl.at] at hb
 have hup:∀get,(fun k=>get (0+k))=rg w (tg r) (tm r)->ax κ w cs (r,[]) 0 get ra ->
   ax (aU κ (yR r P (j+off) cv.length srcs) none) (bB w B (o+j+off) vs) cs (r,[]) 0 get (jd ra sk is (splice row off as)):=fun get hget hroot'=>by
  refine FI (bo:=(rb (tg r) (tm r)).map fun b=>(b,0)) hsk hroot' he hl (by rw [hget];exact ha) (dA (fun S hS b hb=>hro S hS b hb) hm)
   (fun b q hb hbB hnp=>⟨?_,bZ hbB⟩) (fun hb=>by rw [hsz];exact hb) hκB'
   (fun o' y ho' hy=>⟨by rw [eZ,if_neg (by rintro ⟨_,h1,h2⟩;exact ho' ⟨by omega,by omega⟩)];exact hy,hfacts.2.2.2.2.2 _ _⟩) (jQ hW) (fun o' ho' => ?_)
  ·rw [hcol b _ hb,hb];refine GZ fun k hk hpre => ?_
   rw [hP,hj] at hnp;exact hnp (off+k) (by omega) (by rw [<-Nat.add_assoc];exact hpre)
  ·rw [hj] at ho';have:o'=o:=by omega
   subst this;rw [hP,hj];exact hrow'
 refine oJ (mods:=r::srcs) (M:=r::srcs) h (by have:=h.nle;simp only [List.mem_cons,not_or];exact ⟨by omega,hsf⟩) hro (fun b r' q hr' hb => ?_) (fun u hu => ?_) (fun u hu => ?_) (fun u _=>rfl) (fun u hu => ?_) (fun u hu => ?_) (fun b hb => ?_) ?_
 ·simp at hr';refine ⟨?_,bZ ?_⟩
  ·rw [hcol b _ hb,hb];simp [yR,hr']
  ·rintro rfl;rw [hκB] at hb;cases hb;exact hr'.1 rfl
 ·simp at hu;left;simp only [upd,hu.1,hu.2,if_false]
 ·simp at hu;simp [upd,hu]
 ·by_cases hur:u=r
  ·subst hur;rw [bC];have h1:=h.tr u;cases hT:tg u with
   | val ag cs'=>
    rw [hT] at h1 ht;simp only [TT.cts,aF] at ht;subst ht;simp only [TR,bC] at h1 ⊢;obtain ⟨as',vs',k1,k2,k3,k4,k5⟩:=h1;rw [hs] at k1;cases k1;have hrg:rg w (tg u) (tm u)=fun k=>vs'.getD k undef:=by rw [hT];funext k;simp [rg,k2]
    exact ⟨_,vs',rfl,k2,k3,k4,hup _ (by rw [hrg];funext k;simp) k5⟩
   | box cs'=>
    rw [hT] at h1 ht;simp only [TT.cts,aF] at ht;subst ht;simp only [TR,bC] at h1 ⊢;obtain ⟨as',b,k1,k2,k3,k4,k5,k6,k7⟩:=h1;rw [hs] at k1;cases k1;have hbB:b≠B:=by
     rintro rfl;rw [k4] at hκB;simp only [aF,Prod.mk.injEq,true_and] at hκB;exact hPne hκB.symm
    have hsame:=bZ (w:=w) (o:=o+j+off) (vs:=vs) hbB;have hrg:rg w (tg u) (tm u)=cellD w b:=by rw [hT];funext k;simp [rg,k2]
    have hu':=hup (cellD w b) (by rw [hrg];funext k;simp) k7;have hcd:∀i,i<cs'.length->cellD (bB w B (o+j+off) vs) b i=cellD w b i:=fun i hi=>hsame.cD k5.rdb (Nat.zero_le _) hi
    refine ⟨_,b,rfl,k2,by rw [hsz];exact k3,?_,jQ k5,fun k j' c e' hk=>by rw [hcd k (aY hk).1];exact k6 k j' c e' hk,
     jA (fun i _ hi=>hcd i (by simpa using hi)) hu'⟩
    rw [hcol b _ k4];refine GZ fun k hk hpre => ?_
    have:=hpre.length_le;rw [bq,List.length_singleton,List.length_nil] at this;omega
   | dead=>rw [hT] at ht;simp [TT.cts] at ht
   | alias=>rw [hT] at ht;simp [TT.cts] at ht
   | ptr=>rw [hT] at ht;simp [TT.cts] at ht
   | tup=>rw [hT] at ht;simp [TT.cts] at ht
  ·simp [hur] at hu;simp [upd,hur,hu,TR]
 ·have hne':u≠r:=by omega
  simp only [upd,hne',if_false,h.out u hu,TT.kill];split<;>rfl
 ·rw [hsz] at hb;have:=h.col b hb;simp [aU,this]
 ·exact ⟨by rw [hsz];exact h.fr.size,fun b hb h0=>⟨by have:=(h.fr.kept b hb h0).1;simp [aU,this],by
   have hbB:b≠B:=by rintro rfl;rw [(h.fr.kept _ hb h0).1] at hκB;cases hκB
   rw [hfacts.2.2.2.2.1 b hbB];exact (h.fr.kept b hb h0).2⟩,by rw [hfacts.2.1];exact h.fr.os,by rw [hfacts.2.2.1];exact h.fr.out,by rw [hfacts.2.2.2.1];exact h.fr.tape⟩
end
def Me (P:Program) (N:Nat) (g:Nat->TT) (o:Oper):Option Stp:=
 match o.dst,o.op with
 | none,.store t p x=>match plX g p,oL P g t 0 x,P.info? t with
  | some X,some V,some i=>match (g X.r).cts with
   | some cs=>match eU true cs X.sk with
    | some e=>
     if X.r<N/\V.cs.length=i.size/\X.off+V.cs.length<=e.length/\CT.lives V.cs=true/\X.sk≠[]/\X.r∉bV V/\CT.les V.cs ((e.drop X.off).take V.cs.length)=true/\CT.mens (X.r::bV V) cs=false/\CT.mens (X.r::bV V) V.cs=false/\CT.mens (bV V) V.cs=false then
      some ⟨(X.r,g X.r)::(bV V).map (fun t=>(t,.dead)),fun T=>T.kill (X.r::bV V) (X.r::bV V),X.r::(X.rd++V.rd),.det (mZ X V)⟩
     else none
    | none=>none
   | none=>none
  | _,_,_=>none
 | _,_=>none
theorem aaR {P:Program} {N:Nat} {g:Nat->TT} {o:Oper} {S:Stp} (h:Me P N g o=some S):cK P N o g S:=by
 unfold Me at h;split at h;case h_2=>cases h
 case h_1 t p x hd ho=>
 split at h;case h_2=>cases h
 case h_1 X V i hX hV hi=>
 split at h;case h_2=>cases h
 case h_1 cs hcs=>
 split at h;case h_2=>cases h
 case h_1 e he=>
 split at h;case isFalse=>cases h
 case isTrue hc=>
 obtain ⟨hrN,hsz,hfit,hlv,hsk,hrs,hle,hmr,hmv2,hmv⟩:=hc;cases h;intro ac κ0 κ w0 w tg sv s a v next Q hN hR hL hv hcont;simp only [Eff.rel,mZ] at hv;split at hv;case h_2=>cases hv
 case h_1 is ra as hidx hra has=>
 split at hv;case h_2=>cases hv
 case h_1 row hrow=>
 cases hv;obtain ⟨B,O,hp,hev⟩:=LX hR hL hX hidx;obtain ⟨hcs',hsv⟩:=wU hL hcs;obtain ⟨ra',hra'⟩:=hR.sv_root hcs';obtain ⟨is',hs'⟩:=bJ hra;rw [hsv,hs'] at hra';cases hra';have hsr:sv X.r = .v ra []:=by rw [hsv,hs']
 obtain ⟨vs,h1,h2,h3⟩:=FN hR hL hV has (srcs:=bV V) (fun ho=>by simp [bV,ho]) hmv;obtain ⟨_,_,_,_,_,hfb,_⟩:=oM hR hL hV has;have hne:g X.r≠.dead:=fun hg=>by rw [hg] at hcs;simp [TT.cts] at hcs
 obtain ⟨e1,e2⟩:=hL.at rfl hne;obtain ⟨hwr,hR'⟩:=alH hR hrN hcs' hsr hp hsk he hrow (srcs:=bV V) (by unfold bV;split<;>simp;exact fun he=>hfb he.symm) hrs h2 (off:=X.off) hfit hle hmr hmv2 (.inr (.inr trivial));refine Ru (w':=bB w B (O+X.off) vs) ?_ (hcont undef _ _ _ (upd sv X.r (.v (jd ra X.sk is (splice row X.off as)) [])) (by rw [hd,GQ];exact hR') (fun u => ?_) (fun u => ?_))
 ·unfold execOp;rw [ho];simp only;have hcells:=uX h1;have hlen:=h2.len;have hfl:=aat hlen fun k hk=>by
   have:=Rz hlv h2.row k hk;simpa using this
  have:=DZ (P:=P) (t:=t) (i:=i) (b:=B) (o:=O+X.off) (v:=a.eval x) (w:=w) hi (by rw [<-Array.length_toList,hcells,hlen,hsz]) (by rw [hcells];exact hfl) (by rw [<-hsz,<-hlen];exact hwr);rw [hev,az this,hcells];rfl
 ·show _=ay _ ((X.r,g X.r)::(bV V).map fun t=>(t,TT.dead)) u;simp only [ay,upd,LW,e1]
 ·show _=ay sv ((((X.r,g X.r)::(bV V).map fun t=>(t,TT.dead)).map (·.1)).zip [_]) u;simp [ay,upd]
end Go.Fw
namespace Go.Fw
theorem Qg {ac:Nat->Nat->Value} {cs:List CT} {f:Nat->Value} (hn:CT.nowns cs=true):mV ac cs f:=by
 intro k j c e hc;have:=oM.nowns_nth hn hc;simp [CT.nown] at this
section
variable {ac:Nat->Nat->Value} {κ0 κ:aH} {w0 w w':World} {N:Nat} {tg:Nat->TT} {sv:Nat->AV} {tm:Nat->Value}
theorem apk (h:R ac κ0 w0 κ w N tg sv tm) {d t:Nat} (hd:d<N) {ws:List (Bool × Nat)} {cs:List CT} (ht:tg t = .tup ws cs)
  {off n:Nat} (hn:off+n<=cs.length) {g:Bool} {x:Value} {as:List A} (hs:sv t = .v as []) (hno:CT.nowns ((cs.drop off).take n)=true)
  (hx:∀xs vs,tm t = .tuple xs->pQ ws xs.toList=some vs->cellsOf g x=some ((vs.drop off).take n)) :
  R ac κ0 w0 (aU κ (fF d) none) w N (iA tg d (.val g ((cs.drop off).take n))) (upd sv d (.v ((as.drop off).take n) [])) (upd tm d x):=by
 refine jR h hd (Grows.refl w) (fun _ _ h=>by cases h) ?_;have h1:=h.tr t;rw [ht] at h1;simp only [TR,bC] at h1 ⊢;obtain ⟨as',xs,vs,g1,g2,g3,g4,g5⟩:=h1;rw [hs] at g1;cases g1;refine ⟨_,_,rfl,hx xs vs g2 g3,by simp;omega,Qg hno,iB (P:=fun _=>True) (j:=off) (get:=fun k=>vs.getD k undef) (fun S _ b hb=>jF (Grows.refl w) (fun _ _ h=>by cases h) S b hb) hno (fJ (fun _=>trivial) _) (fun i hi => ?_) (by simpa using jE n (jD off g5))⟩;have hi':i<n:=by simp at hi;omega
 simp only [bN];rw [Nat.zero_add,List.getElem?_take_of_lt hi',List.getElem?_drop]
theorem ai9 {cs:List CT} {off n:Nat} {f:Nat->Value} (h:mV ac cs f):mV ac (iJ off n cs) f:=by
 intro k j c e hc;rw [qI] at hc;cases h0:cs[k]? with
 | none=>simp [h0] at hc
 | some c0=>
  simp only [h0,Option.map_some,aF] at hc;split at hc
  ·cases c0<;>simp [qH] at hc
  ·subst hc;exact h k j c e h0
theorem apl (h:R ac κ0 w0 κ w N tg sv tm) {d t:Nat} (hd:d<N) (htN:t<N) (hdt:d≠t) {cs:List CT} (ht:tg t = .val true cs) (hm:CT.mens [t] cs=false)
  {off n:Nat} (hn:off+n<=cs.length) {g:Bool} {x:Value} {as:List A} (hs:sv t = .v as []) (hnp:fe ((cs.drop off).take n)=true)
  (hx:∀vs,cellsOf true (tm t)=some vs->cellsOf g x=some ((vs.drop off).take n)) :
  R ac κ0 w0 (aU κ (iF t off n d) none) w N (upd (upd (fun u=>(tg u).kill [d,t] [t]) t (.val true (iJ off n cs))) d (.val g ((cs.drop off).take n))) (upd sv d (.v ((as.drop off).take n) [])) (upd tm d x):=by
 have h1:=h.tr t;rw [ht] at h1;simp only [TR] at h1;obtain ⟨as',vs,g1,g2,g3,g4,g5⟩:=h1;rw [hs] at g1;cases g1;have hvs:∀i,i<n->((vs.drop off).take n).getD i undef=vs.getD (off+i) undef:=by
  intro i hi;simp only [bN];rw [List.getElem?_take_of_lt hi,List.getElem?_drop]
 refine aao h hd hdt g5 hm hn (hx vs g2) (by simp;omega) hvs (dV hnp) (fun κ' hκ hdead _ => ?_) htN;simp only [TR,upd_ne _ _ _ (Ne.symm hdt)];exact ⟨_,vs,hs,g2,by rw [gu];exact g3,ai9 g4,hdead⟩
end
def WF (N:Nat) (g:Nat->TT) (o:Oper):Option Stp:=
 match o.dst,o.op with
 | some d,.extract (.tmp t) i=>match g t with
  | .tup ws cs=>match ws[i]? with
   | some (ag,n)=>if d<N/\woff ws i+n<=cs.length/\CT.nowns ((cs.drop (woff ws i)).take n)=true then
     some (Stp.set d (.val ag ((cs.drop (woff ws i)).take n)) [t] (.det (oP t (woff ws i) n))) else none
   | none=>none
  | _=>none
 | _,_=>none
theorem agt {P:Program} {N:Nat} {g:Nat->TT} {o:Oper} {S:Stp} (h:WF N g o=some S):cK P N o g S:=by
 unfold WF at h;split at h;case h_2=>cases h
 case h_1 d t i hd ho=>
 split at h;case h_2=>cases h
 case h_1 ws cs hT=>
 split at h;case h_2=>cases h
 case h_1 ag n hw=>
 split at h;case isFalse=>cases h
 case isTrue hc=>
 obtain ⟨hdN,hn,hno⟩:=hc;cases h;intro ac κ0 κ w0 w tg sv s a v next Q hN hR hL hv hcont;simp only [Stp.set,Eff.rel,oP,Option.map_eq_some_iff] at hv;obtain ⟨as,hg,rfl⟩:=hv;obtain ⟨e1,e2⟩:=hL.at hT (by simp);have h1:=hR.tr t;rw [e1] at h1;simp only [TR] at h1;obtain ⟨as',xs,vs,g1,g2,g3,g4,g5⟩:=h1;obtain ⟨is,hs⟩:=bJ hg;rw [e2,hs] at g1;cases g1;obtain ⟨x,hx,hcx,_⟩:=L9 g3 hw;refine fK (d:=d) (x:=x) (w':=w) hd hN hdN ?_ (apk hR hdN e1 hn (g:=ag) (x:=x) (as:=as) (by rw [e2,hs]) hno (fun xs' vs' k1 k2=>by
  rw [g2] at k1;cases k1
  rw [g3] at k2;cases k2
  exact hcx)) hcont
 unfold execOp;rw [ho];simp only;refine bS ?_;have hev:a.eval (.tmp t)=gm a t:=rfl;rw [hev,g2];unfold Instr.extract;simp only;have hx':xs[i]?=some x:=by simpa using hx
 rw [hx'];rfl
theorem ai_ {P:Program} {st:TypeId} {fs:Array Field} {f:Nat} {fi:Field} {i:TypeInfo} {ag:Bool} {x:Value} {vs:List Value} {w:World} (hu:P.underlying st=some (.struct fs)) (hf:fs[f]?=some fi)
  (hi:P.info? fi.type=some i) (hg:rF P fi.type=some ag) (hx:cellsOf true x=some vs) (h1:ag=true\/i.size=1) (hn:fi.offset+i.size<=vs.length) (hsc:∀y,vs[fi.offset]?=some y->ag=false->∀us,y≠.agg us/\y≠.tuple us) :
  ∃y,(Instr.field st x f).run P w = .ok y w/\cellsOf ag y=some ((vs.drop fi.offset).take i.size):=by
 cases x<;>simp [cellsOf] at hx;rename_i cells;unfold Instr.field;rw [az (run_underlying hu w)];simp only [hf];rw [az (show (asAgg (.agg cells)).run P w = .ok cells w from rfl)];unfold part;rw [az (CV hg w)];cases ag with
 | true=>
  simp only [if_true];rw [az (run_sizeOf hi w)];refine ⟨_,rfl,?_⟩;simp only [cellsOf,aF];rw [<-hx];simp [Array.toList_extract]
 | false=>
  simp only [Bool.false_eq_true,if_false];have hs:i.size=1:=by simpa using h1
  have hl:fi.offset<vs.length:=by omega
  have hc:cells[fi.offset]?=some (vs[fi.offset]):=by
   rw [<-Array.getElem?_toList];simp only [hx];exact aR hl
  rw [hc];refine ⟨_,rfl,?_⟩;rw [hs,List.drop_eq_getElem_cons hl];have:=hsc _ (aR hl) rfl;cases hv:vs[fi.offset] with
  | agg us=>exact absurd hv (this us).1
  | tuple us=>exact absurd hv (this us).2
  | _=>simp [cellsOf]
def TT.vcs:TT->Option (List CT)
 | .val true cs=>some cs
 | .alias true cs _ _ _ _=>some cs
 | _=>none
def TT.isV:TT->Bool
 | .val _ _=>true
 | _=>false
def aaS (P:Program) (N:Nat) (g:Nat->TT) (o:Oper):Option Stp:=
 match o.dst,o.op with
 | some d,.field st (.tmp t) f=>match P.underlying st with
  | some (.struct fs)=>match fs[f]? with
   | some fi=>match P.info? fi.type,rF P fi.type,(g t).vcs with
    | some i,some ag,some cs=>
     if d<N/\t<N/\fi.offset+i.size<=cs.length/\(ag=true\/i.size=1)/\CT.lives ((cs.drop fi.offset).take i.size)=true then
      if CT.nowns ((cs.drop fi.offset).take i.size)=true then some (Stp.set d (.val ag ((cs.drop fi.offset).take i.size)) [t] (.det (oP t fi.offset i.size)))
      else if (g t).isV=true/\d≠t/\CT.mens [t] cs=false/\fe ((cs.drop fi.offset).take i.size)=true then
       some ⟨[(d,.val ag ((cs.drop fi.offset).take i.size)),(t,.val true (iJ fi.offset i.size cs))],fun T=>T.kill [d,t] [t],[t],.det (oP t fi.offset i.size)⟩
      else none
     else none
    | _,_,_=>none
   | none=>none
  | _=>none
 | _,_=>none
theorem apm {ac:Nat->Nat->Value} {κ:aH} {w:World} {tg:Nat->TT} {sv:Nat->AV} {tm:Nat->Value} {t:Nat} {T:TT} {cs:List CT} (hc:T.vcs=some cs) (h:TR ac κ w tg sv tm t T) :
  ∃as is vs,sv t = .v as is/\cellsOf true (tm t)=some vs/\vs.length=cs.length/\ax κ w cs (t,[]) 0 (fun k=>vs.getD k undef) as:=by
 cases T with
 | val ag cs'=>
  cases ag<;>simp only [TT.vcs,aF,reduceCtorEq] at hc;subst hc;simp only [TR] at h;obtain ⟨as,vs,g1,g2,g3,g4,g5⟩:=h;exact ⟨as,_,vs,g1,g2,g3,g5⟩
 | alias ag cs' r sk off S=>
  cases ag<;>simp only [TT.vcs,aF,reduceCtorEq] at hc;subst hc;simp only [TR] at h;obtain ⟨as,is,vs,gf,ra,row,g1,g2,g3,g4,g5,_⟩:=h;exact ⟨as,is,vs,g1,g2,g3,g5⟩
 | _=>simp [TT.vcs] at hc
theorem aja {P:Program} {N:Nat} {g:Nat->TT} {o:Oper} {S:Stp} (h:aaS P N g o=some S):cK P N o g S:=by
 unfold aaS at h;split at h;case h_2=>cases h
 case h_1 d st t f hd ho=>
 split at h;case h_2=>cases h
 case h_1 fs hu=>
 split at h;case h_2=>cases h
 case h_1 fi hf=>
 split at h;case h_2=>cases h
 case h_1 i ag cs hi hg hT=>
 split at h;case isFalse=>cases h
 case isTrue hc=>
 obtain ⟨hdN,htN,hn,h1,hlv⟩:=hc;have key:∀{ac:Nat->Nat->Value} {κ0 κ:aH} {w0 w:World} {tg:Nat->TT} {sv s:Nat->AV} {a:Act} {as:List A},R ac κ0 w0 κ w N tg sv (gm a)->Le g s tg sv->fQ t s=some as ->
   ∃is vs x,tg t=g t/\sv t = .v as is/\cellsOf true (gm a t)=some vs/\(execOp a.eval o).run P w = .ok (.value x) w/\cellsOf ag x=some ((vs.drop fi.offset).take i.size)/\vs.length=cs.length/\ax κ w cs (t,[]) 0 (fun k=>vs.getD k undef) as:=by
  intro ac κ0 κ w0 w tg sv s a as hR hL hgA;obtain ⟨e1,e2⟩:=hL.at (T:=g t) rfl (by intro h;rw [h] at hT;simp [TT.vcs] at hT);have h2:=hR.tr t;rw [e1] at h2;obtain ⟨as',is,vs,g1,g2,g3,g4⟩:=apm hT h2;obtain ⟨is',hs⟩:=bJ hgA;rw [e2,hs] at g1;cases g1;have hsub:=jE i.size (jD fi.offset g4);obtain ⟨y,hy1,hy2⟩:=ai_ (w:=w) hu hf hi hg g2 h1 (by omega) (fun y hy hag=>by
   have hs1:i.size=1:=by rcases h1 with h1|h1<;>simp_all
   have hl1:((cs.drop fi.offset).take i.size).length=1:=by simp;omega
   have:=eH (k:=0) hsub (aR (by omega)) (aR (by rw [bU hsub];omega))
   have hfl:=FM (mX hlv (aR (by omega))) this
   have:=Pi hfl
   simpa [bN,hy] using this)
  refine ⟨is,vs,y,e1,by rw [e2,hs],g2,?_,hy2,g3,g4⟩;unfold execOp;rw [ho];simp only;exact bS hy1
 split at h;case isTrue hno=>
  cases h;intro ac κ0 κ w0 w tg sv s a v next Q hN hR hL hv hcont;simp only [Stp.set,Eff.rel,oP,Option.map_eq_some_iff] at hv;obtain ⟨as,hgA,rfl⟩:=hv;obtain ⟨is,vs,x,e1,hs,hvs,hrun,hcx,hl,hrc⟩:=key hR hL hgA;refine fK (d:=d) (x:=x) (w':=w) hd hN hdN hrun (κ':=aU κ (fF d) none) ?_ hcont;refine jR hR hdN (Grows.refl w) (fun _ _ h=>by cases h) ?_;simp only [TR,bC];refine ⟨_,_,rfl,hcx,by simp;omega,Qg hno,iB (P:=fun _=>True) (j:=fi.offset) (get:=fun k=>vs.getD k undef) (fun S _ b hb=>jF (Grows.refl w) (fun _ _ h=>by cases h) S b hb) hno (fJ (fun _=>trivial) _) (fun k hk => ?_) (by simpa using jE i.size (jD fi.offset hrc))⟩;have hk':k<i.size:=by simp at hk;omega
  simp only [bN];rw [Nat.zero_add,List.getElem?_take_of_lt hk',List.getElem?_drop]
 case isFalse hno=>
  split at h;case isFalse=>cases h
  case isTrue hc2=>
  obtain ⟨hV,hdt,hm,hnp⟩:=hc2;cases h;intro ac κ0 κ w0 w tg sv s a v next Q hN hR hL hv hcont;simp only [Eff.rel,oP,Option.map_eq_some_iff] at hv;obtain ⟨as,hgA,rfl⟩:=hv;obtain ⟨is,vs,x,e1,hs,hvs,hrun,hcx,hl,hrc⟩:=key hR hL hgA;have hval:g t = .val true cs:=by
   cases hgt:g t with
   | val ag' cs'=>rw [hgt] at hT;cases ag'<;>simp [TT.vcs] at hT;rw [hT]
   | _=>rw [hgt] at hV;simp [TT.isV] at hV
  have his:is=[]:=by
   have h2:=hR.tr t;rw [e1,hval] at h2;simp only [TR] at h2;obtain ⟨_,_,g1,_⟩:=h2;rw [hs] at g1;cases g1;rfl
  subst his;have hR':=apl hR hdN htN hdt (by rw [e1,hval]) hm hn (g:=ag) (x:=x) (as:=as) hs hnp (fun vs' k1=>by rw [hvs] at k1;cases k1;exact hcx);refine GM (w':=w) (x:=x) hrun (hcont x w _ _ _ (by rw [hd,lL (a:=a) (by rw [hN];exact hdN)];exact hR') (fun u => ?_) (fun u => ?_))
  ·simp only [ay,upd]
  ·simp [ay,upd]
end Go.Fw
namespace Go.Fw
mutual
def CT.frz:CT->CT
 | .d=>.d
 | .sl (.own _) e=>.sl (.ro []) (CT.frzs e)
 | .sl m e=>.sl m (CT.frzs e)
def CT.frzs:List CT->List CT
 | []=>[]
 | c::cs=>c.frz::CT.frzs cs
end
theorem gX:∀cs:List CT,(CT.frzs cs).length=cs.length
 | []=>rfl
 | c::cs=>by simp [CT.frzs,gX cs]
section
variable {κ κ':aH} {w:World} {t m:Nat}
mutual
theorem apn (hro:∀S b,aW κ w S b->aW κ' w S b) (hk:∀b q,κ b=some (t,q)->m<=q.length->κ' b=none):∀{c:CT} {p:Pl} {x:Value} {a:A},p.1=t->m<=p.2.length->RC κ w c p x a->RC κ' w c.frz p x a
 | .d,_,_,.v _,_,_,h=>by simpa only [CT.frz,RC] using h
 | .d,_,_,.s _,_,_,h=>by simp [RC] at h
 | .sl (.own k) e,p,x,.s xs,hp,hm,h=>by
  simp only [CT.frz,RC,gX] at h ⊢;obtain ⟨ao,cap,h1,h2,h3⟩:=h;refine ⟨ao,cap,h1,h2,?_⟩;rcases h3 with ⟨rfl,rfl⟩|⟨b,o,g1,g2,g3,g4,g5⟩
  ·left;exact List.length_eq_zero_iff.1 (by omega)
  ·right;have hb:κ' b=none:=hk b p.2 (by rw [g3,<-hp]) hm;refine ⟨b,o,g1,⟨g2,fun r q hq=>by rw [hb] at hq;cases hq⟩,fun o' h1 h2'=>(g4 o' h1 ?_).1,FV hro hk hp (by omega) g5⟩;have:=Nat.mul_le_mul_right e.length h2;omega
 | .sl (.ro S) e,p,x,.s xs,hp,hm,h=>by
  simp only [CT.frz,RC,gX] at h ⊢;obtain ⟨ao,cap,h1,h2,h3⟩:=h;refine ⟨ao,cap,h1,h2,?_⟩;rcases h3 with h3|⟨b,o,g1,g2,g3,g4⟩
  ·exact .inl h3
  ·exact .inr ⟨b,o,g1,hro S b g2,g3,FV hro hk hp (by omega) g4⟩
 | .sl .dead e,p,x,.s xs,_,_,h=>by simp [CT.frz,RC]
 | .sl .dead e,p,x,.v _,_,_,h=>by simp [CT.frz,RC]
 | .sl (.own k) e,p,x,.v _,_,_,h=>by simp [RC] at h
 | .sl (.ro S) e,p,x,.v _,_,_,h=>by simp [RC] at h
theorem WH (hro:∀S b,aW κ w S b->aW κ' w S b) (hk:∀b q,κ b=some (t,q)->m<=q.length->κ' b=none):∀{cs:List CT} {p:Pl} {j:Nat} {get:Nat->Value} {as:List A},p.1=t->m<=p.2.length+1->ax κ w cs p j get as->ax κ' w (CT.frzs cs) p j get as
 | [],_,_,_,[],_,_,_=>by simp [CT.frzs,ax]
 | [],_,_,_,_::_,_,_,h=>by simp [ax] at h
 | c::cs,p,j,get,[],_,_,h=>by simp [ax] at h
 | c::cs,p,j,get,a::as,hp,hm,h=>by
  simp only [CT.frzs,ax] at h ⊢;exact ⟨apn hro hk (by simpa [Pl.at] using hp) (by simpa [Pl.at] using hm) h.1,WH hro hk hp hm h.2⟩
theorem FV (hro:∀S b,aW κ w S b->aW κ' w S b) (hk:∀b q,κ b=some (t,q)->m<=q.length->κ' b=none):∀{e:List CT} {p:Pl} {j:Nat} {get:Nat->Value} {xs:List (List A)},p.1=t->m<=p.2.length+1->bO κ w e p j get xs->bO κ' w (CT.frzs e) p j get xs
 | _,_,_,_,[],_,_,_=>by simp [bO]
 | e,p,j,get,x::xs,hp,hm,h=>by
  simp only [bO,gX] at h ⊢;exact ⟨WH hro hk hp hm h.1,FV hro hk hp hm h.2⟩
end
end
def CT.inn:CT->CT
 | .sl (.own k) e=>.sl (.own k) (CT.frzs e)
 | c=>c.frz
def u6 (t m:Nat) (κ:aH):aH:=fun b=>
 match κ b with
 | some (r,q)=>if r=t/\m<=q.length then none else some (r,q)
 | none=>none
theorem Yf {t m:Nat} {κ:aH} {b:Nat} (h:κ b=none):u6 t m κ b=none:=by simp [u6,h]
theorem Mf {t m:Nat} {κ:aH} {b r:Nat} {q:List Nat} (h:u6 t m κ b=some (r,q)):κ b=some (r,q):=by
 unfold u6 at h;split at h
 ·rename_i hk;split at h
  ·cases h
  ·rw [hk];exact h
 ·cases h
theorem aeG {t m:Nat} {κ:aH} {b r:Nat} {q:List Nat} (h:κ b=some (r,q)) (hr:r≠t\/q.length<m):u6 t m κ b=some (r,q):=by
 unfold u6;rw [h];simp only;rw [if_neg (by rintro ⟨h1,h2⟩;rcases hr with hr|hr<;>first|exact hr h1|omega)]
theorem aoc {κ:aH} {w:World} {t:Nat}:∀{cs:List CT} {j:Nat} {get:Nat->Value} {as:List A},ax κ w cs (t,[]) j get as->ax (u6 t 2 κ) w (cs.map CT.inn) (t,[]) j get as:=by
 have hro:∀S b,aW κ w S b->aW (u6 t 2 κ) w S b:=fun S b hb=>⟨hb.1,fun r q hq=>hb.2 r q (Mf hq)⟩
 have hk:∀b q,κ b=some (t,q)->2<=q.length->u6 t 2 κ b=none:=fun b q hb hq=>by simp [u6,hb,hq]
 intro cs;induction cs with
 | nil=>intro j get as h;cases as<;>simp [ax] at h ⊢
 | cons c cs ih=>
  intro j get as h;cases as with
  | nil=>simp [ax] at h
  | cons a as=>
   simp only [ax,List.map_cons] at h ⊢;refine ⟨?_,ih h.2⟩;have h1:=h.1;cases c with
   | d=>cases a<;>simp only [CT.inn,CT.frz,RC] at h1 ⊢;exact h1
   | sl md e=>
    cases a with
    | v y=>cases md<;>simp [CT.inn,CT.frz,RC] at h1 ⊢
    | s xs=>
     cases md with
     | own k=>
      simp only [CT.inn,RC,gX] at h1 ⊢;obtain ⟨ao,cap,g1,g2,g3⟩:=h1;refine ⟨ao,cap,g1,g2,?_⟩;rcases g3 with g3|⟨b,o,k1,k2,k3,k4,k5⟩
      ·exact .inl g3
      ·exact .inr ⟨b,o,k1,k2,aeG k3 (.inr (by simp)),k4,FV hro hk (by simp [Pl.at]) (by simp [Pl.at]) k5⟩
     | ro S=>
      simp only [CT.inn,CT.frz,RC,gX] at h1 ⊢;obtain ⟨ao,cap,g1,g2,g3⟩:=h1;refine ⟨ao,cap,g1,g2,?_⟩;rcases g3 with g3|⟨b,o,k1,k2,k3,k4⟩
      ·exact .inl g3
      ·exact .inr ⟨b,o,k1,hro S b k2,k3,FV hro hk (by simp [Pl.at]) (by simp [Pl.at]) k4⟩
     | dead=>simp [CT.inn,CT.frz,RC]
def CT.deep:CT->Bool
 | .sl (.own _) e=>!CT.nowns e
 | _=>false
def u7 (cs:List CT):Nat × List CT:=if cs.any CT.deep then (2,cs.map CT.inn) else (1,CT.frzs cs)
theorem alI (cs:List CT):(u7 cs).2.length=cs.length:=by
 unfold u7;split<;>simp [gX]
theorem alJ {κ:aH} {w:World} {t:Nat} {cs:List CT} {get:Nat->Value} {as:List A} (h:ax κ w cs (t,[]) 0 get as):ax (u6 t (u7 cs).1 κ) w (u7 cs).2 (t,[]) 0 get as:=by
 unfold u7;split
 ·exact aoc h
 ·exact WH (t:=t) (m:=1) (fun S b hb=>⟨hb.1,fun r q hq=>hb.2 r q (Mf hq)⟩) (fun b q hb hq=>by simp [u6,hb,hq]) rfl (by simp) h
def TM (N:Nat) (g:Nat->TT) (t:Nat):Option Stp:=
 match g t with
 | .val ag cs=>if t<N/\fe (u7 cs).2=true then some ⟨[(t,.val ag (u7 cs).2)],fun T=>T.kill [t] [],[t],.det (fA t)⟩ else none
 | _=>none
theorem aqO {ac:Nat->Nat->Value} {κ0 κ:aH} {w0 w:World} {N:Nat} {tg:Nat->TT} {sv:Nat->AV} {tm:Nat->Value} (h:R ac κ0 w0 κ w N tg sv tm) {t:Nat} {ag:Bool} {cs:List CT} (ht:tg t = .val ag cs) (htN:t<N) (hnp:fe (u7 cs).2=true) :
  R ac κ0 w0 (u6 t (u7 cs).1 κ) w N (ay (fun u=>(tg u).kill [t] []) [(t,.val ag (u7 cs).2)]) sv tm:=by
 refine oJ (mods:=[t]) (M:=[]) h ?_ (fun S hS b hb=>⟨⟨hb.1,fun r q hq=>hb.2 r q (Mf hq)⟩,Same.refl w b⟩) (fun b r q hr hb => ?_) (fun r hr => ?_) (fun _ _=>rfl) (fun _ _=>rfl) (fun u hu => ?_) (fun u hu => ?_) (fun b hb=>Yf (h.col b hb)) ?_
 ·have:=h.nle;simp only [List.mem_singleton];omega
 ·simp only [List.mem_singleton] at hr;exact ⟨by rw [hb];exact aeG hb (.inl hr),Same.refl w b⟩
 ·simp only [List.mem_singleton] at hr;left;simp [ay,hr]
 ·simp only [List.mem_singleton] at hu;subst hu;have h1:=h.tr u;rw [ht] at h1;simp only [TR] at h1;obtain ⟨as,vs,g1,g2,g3,_,g5⟩:=h1;simp only [ay,if_true,TR];exact ⟨as,vs,g1,g2,by rw [g3,alI],dV hnp,alJ g5⟩
 ·have:u≠t:=by omega
  simp only [ay,if_neg this,h.out u hu];rfl
 ·refine ⟨h.fr.size,fun b hb h0 => ?_,h.fr.os,h.fr.out,h.fr.tape⟩;have:=h.fr.kept b hb h0;exact ⟨Yf this.1,this.2⟩
theorem apo {P:Program} {N:Nat} {g:Nat->TT} {o:Oper} {t:Nat} {S1 S2:Stp} (h1:TM N g t=some S1) (h2:cK P N o (xL g S1) S2) (hv:∀s v,S2.eff.rel P s v->v.length<=S2.up.length) :
  cK P N o g (Stp.take t S1 S2):=by
 intro ac κ0 κ w0 w tg sv s a v next Q hN hR hL hv0 hcont;simp only [Stp.take] at hv0;obtain ⟨s1,hs1,hrel⟩:=Eff.pre_rel hv0;simp only [Pw] at hs1;split at hs1;case h_2=>cases hs1
 case h_1 as has=>
 cases hs1;unfold TM at h1;split at h1;case h_2=>cases h1
 case h_1 ag cs hT=>
 split at h1;case isFalse=>cases h1
 case isTrue hc=>
 cases h1;obtain ⟨e1,e2⟩:=hL.at hT (by simp);have hR':=aqO hR e1 hc.1 hc.2;have hst:s t = .v as []:=by
  have h5:=hR.tr t;rw [e1] at h5;simp only [TR] at h5;obtain ⟨as',vs,k1,_⟩:=h5;rw [e2] at k1;obtain ⟨is,his⟩:=bJ has;rw [k1] at his;cases his;exact k1
 have hup:upd s t (.v as [])=s:=by
  funext u;unfold upd;split
  ·rename_i hu;rw [hu,hst]
  ·rfl
 rw [hup] at hrel;have hL':Le (xL g ⟨[(t,.val ag (u7 cs).2)],fun T=>T.kill [t] [],[t],.det (fA t)⟩) s (ay (fun u=>(tg u).kill [t] []) [(t,.val ag (u7 cs).2)]) sv:=by
  intro u;simp only [xL,ay];by_cases hut:u=t
  ·right;subst hut;exact ⟨by simp,e2.symm⟩
  ·simp only [if_neg hut];rcases hL u with h3|⟨h3,h4⟩
   ·left;rw [h3];rfl
   ·right;exact ⟨by rw [h3],h4⟩
 refine h2 ac κ0 _ w0 w _ sv s a v next Q hN hR' hL' hrel fun x w' κ'' tg'' sv'' hR'' htg'' hsv'' => ?_
 have hvl:=hv _ _ hrel;refine hcont x w' κ'' tg'' sv'' hR'' (fun u => ?_) (fun u => ?_)
 ·rw [htg'' u];simp only [Stp.take];rw [Aj];by_cases hu:u∈S2.up.map (·.1)
  ·exact bA.upds_in hu
  ·rw [bA.upds_out hu,bA.upds_out hu];simp only [ay,List.map_cons,List.map_nil];split<;>rfl
 ·rw [hsv'' u];simp only [Stp.take];have hz:((S2.up++[(t,TT.val ag (u7 cs).2)].map fun p=>(p.1,S2.kl p.2)).map (·.1)).zip v=(S2.up.map (·.1)).zip v:=by
   rw [List.map_append];exact FQ (by simpa using hvl)
  rw [hz]
end Go.Fw
namespace Go.Fw
def KN (a b:Option Stp):Option Stp:=
 match a with
 | some x=>some x
 | none=>b
theorem jl {a b:Option Stp} {S:Stp} (h:KN a b=some S):a=some S\/b=some S:=by
 unfold KN at h;split at h
 ·exact .inl h
 ·exact .inr h
def Eff.cap (n:Nat):Eff->Eff
 | .det f=>.det fun s=>match f s with
  | some v=>if v.length<=n/\0<v.length then some v else none
  | none=>none
 | .call K sg args post=>.call K sg args fun res outs s=>match post res outs s with
  | some v=>if v.length<=n/\0<v.length then some v else none
  | none=>none
theorem Eff.cap_rel {P:Program} {n:Nat} {E:Eff} {s:Nat->AV} {v:List AV} (h:(E.cap n).rel P s v):E.rel P s v/\v.length<=n/\0<v.length:=by
 cases E with
 | det f=>
  simp only [Eff.cap,Eff.rel] at h ⊢;split at h
  ·rename_i v' hv;split at h
   ·cases h;exact ⟨hv,by assumption⟩
   ·cases h
  ·cases h
 | call K sg args post=>
  simp only [Eff.cap,Eff.rel] at h ⊢;obtain ⟨as,res,outs,h1,h2,h3⟩:=h;split at h3
  ·rename_i v' hv;split at h3
   ·cases h3;exact ⟨⟨as,res,outs,h1,h2,hv⟩,by assumption⟩
   ·cases h3
  ·cases h3
def Stp.cap (S:Stp):Stp:=⟨S.up,S.kl,S.rd,S.eff.cap S.up.length⟩
theorem apq {P:Program} {N:Nat} {o:Oper} {g:Nat->TT} {S:Stp} (h:cK P N o g S):cK P N o g S.cap:=by
 intro ac κ0 κ w0 w tg sv s a v next Q hN hR hL hv hcont;exact h ac κ0 κ w0 w tg sv s a v next Q hN hR hL (Eff.cap_rel hv).1 hcont
def alK (P:Program) (sigs:FuncId->Option aI) (N:Nat) (g:Nat->TT) (hint:Bool) (o:Oper):Option Stp:=
 match o.op with
 | .move _=>uW P N g hint o
 | .assign _=>KN (aaN N g hint o) (uW P N g hint o)
 | .nilCheck _=>uW P N g hint o
 | .alloc _=>TA P N g o
 | .box _ _=>TA P N g o
 | .build _ _=>RF P N g o
 | .buildSlice _ _ _=>aaA P N g o
 | .load _ _=>Wv P N g o
 | .store _ _ _=>KN (RA P N g o) (Me P N g o)
 | .fieldAddr _ _ _=>Rv P N g o
 | .indexAddr _ _ _=>Rw P N g o
 | .makeSlice _ _ _=>Wy P N g o
 | .extract _ _=>KN (WF N g o) (aaK N g o)
 | .field _ _ _=>KN (aaS P N g o) (qJ P N g o)
 | .slice _ _ _ _ _=>KN (WE P N g hint o) (KN (aaL P N g o) (qJ P N g o))
 | .binOp _ _ _ _ _=>KN (aaQ P N g o) (qJ P N g o)
 | .convert _ _ _=>KN (RI P N g o) (qJ P N g o)
 | .call c=>match c.callee with
  | .builtin .append=>L6 P N g o
  | .builtin _=>KN (aau P N g o) (qJ P N g o)
  | _=>KN (Wz P sigs N g o) (RG P sigs N g o)
 | _=>qJ P N g o
theorem aod {P:Program} {sigs:FuncId->Option aI} {N:Nat} {g:Nat->TT} {hint:Bool} {o:Oper} {S:Stp} (h:alK P sigs N g hint o=some S):cK P N o g S:=by
 unfold alK at h;split at h<;>first
  | exact Tx h
  | exact aiR h
  | exact adl h
  | exact aiU h
  | exact agi h
  | exact adi h
  | exact adj h
  | exact agm h
  | exact nQ h
  | (split at h
     ·exact aaw h
     ·rcases jl h with h|h
      ·exact aiS h
      ·exact nQ h
     ·rcases jl h with h|h
      ·exact agp h
      ·exact adm h)
  | (rcases jl h with h|h
     ·exact agt h
     ·exact ai3 h)
  | (rcases jl h with h|h
     ·exact aja h
     ·exact nQ h)
  | (rcases jl h with h|h
     ·exact ai6 h
     ·exact Tx h)
  | (rcases jl h with h|h
     ·exact adk h
     ·exact aaR h)
  | (rcases jl h with h|h
     ·exact ai8 h
     ·exact nQ h)
  | (rcases jl h with h|h
     ·exact adn h
     ·exact nQ h)
  | (rcases jl h with h|h
     ·exact ags h
     ·rcases jl h with h|h
      ·exact ai5 h
      ·exact nQ h)
def TT.isDead:TT->Bool
 | .dead=>true
 | _=>false
theorem CX {T:TT} (h:T.isDead=true):T = .dead:=by cases T<;>simp [TT.isDead] at h;rfl
def WI (P:Program) (sigs:FuncId->Option aI) (N:Nat) (hint:Bool) (o:Oper):(Nat->TT)->List Nat->Option Stp
 | g,[]=>match alK P sigs N g hint o with
  | some S=>if S.kl .dead |>.isDead then some S.cap else none
  | none=>none
 | g,t::ts=>match qK N g t with
  | some S1=>match WI P sigs N hint o (xL g S1) ts with
   | some S2=>if (S2.up.map (·.1)).contains t then some (Stp.take t S1 S2) else none
   | none=>none
  | none=>match TM N g t with
   | some S1=>match WI P sigs N hint o (xL g S1) ts with
    | some S2=>some (Stp.take t S1 S2)
    | none=>none
   | none=>none
theorem aeH {S1:Stp} {N:Nat} {g:Nat->TT} {t:Nat} (h1:qK N g t=some S1):S1.kl .dead = .dead:=by
 unfold qK at h1;split at h1;case h_2=>cases h1
 case h_1 ag cs0 r off S0 hT=>
 split at h1
 ·split at h1
  ·cases h1;rfl
  ·cases h1
 ·split at h1
  ·cases h1;rfl
  ·cases h1
 ·cases h1
theorem WJ {P:Program} {sigs:FuncId->Option aI} {N:Nat} {hint:Bool} {o:Oper}:∀{ts:List Nat} {g:Nat->TT} {S:Stp},WI P sigs N hint o g ts=some S ->
  cK P N o g S/\S.kl .dead = .dead/\∀s v,S.eff.rel P s v->v.length<=S.up.length/\0<v.length
 | [],g,S,h=>by
  simp only [WI] at h
  split at h
  case h_2=>cases h
  case h_1 S' hS=>
  split at h
  case isFalse=>cases h
  case isTrue hd=>
  cases h
  exact ⟨apq (aod hS),CX hd,fun s v hv=>(Eff.cap_rel hv).2⟩
 | t::ts,g,S,h=>by
  simp only [WI] at h
  split at h
  case h_2=>
   split at h
   case h_2=>cases h
   case h_1 S1 h1=>
   split at h
   case h_2=>cases h
   case h_1 S2 h2=>
   cases h
   obtain ⟨k1,k2,k3⟩:=WJ h2
   have hk:S1.kl .dead = .dead:=by
    unfold TM at h1;split at h1
    ·split at h1
     ·cases h1;rfl
     ·cases h1
    ·cases h1
   refine ⟨apo h1 k1 (fun s v hv=>(k3 s v hv).1),by simp only [Stp.take];rw [hk,k2],fun s v hv => ?_⟩
   obtain ⟨s1,_,hr⟩:=Eff.pre_rel hv
   have:=k3 _ _ hr
   simp only [Stp.take,bq]
   omega
  case h_1 S1 h1=>
  split at h
  case h_2=>cases h
  case h_1 S2 h2=>
  split at h
  case isFalse=>cases h
  case isTrue hc=>
  cases h
  obtain ⟨k1,k2,k3⟩:=WJ h2
  refine ⟨an_ h1 (aeH h1) k2 k1 (by simpa using hc) (fun s v hv=>(k3 s v hv).1),by simp only [Stp.take];rw [aeH h1,k2],fun s v hv => ?_⟩
  obtain ⟨s1,_,hr⟩:=Eff.pre_rel hv
  have:=k3 _ _ hr
  simp only [Stp.take,bq]
  omega
end Go.Fw
namespace Go.Fw
mutual
def CT.pure:CT->Bool
 | .d=>true
 | .sl (.own none) e=>CT.pures e
 | .sl _ _=>false
def CT.pures:List CT->Bool
 | []=>true
 | c::cs=>c.pure&&CT.pures cs
end
end Go.Fw
namespace Go.Fw
section
variable {κ κ':aH} {w:World} {t:Nat} {p0:List Nat}
mutual
theorem aeI (hro:∀S b,aW κ w S b->aW κ' w S b) (hk:∀b q,κ b=some (t,q)->p0 <+: q->κ' b=none):∀{c:CT} {p:Pl} {x:Value} {a:A},p.1=t->p0 <+: p.2->RC κ w c p x a->RC κ' w c.frz p x a
 | .d,_,_,.v _,_,_,h=>by simpa only [CT.frz,RC] using h
 | .d,_,_,.s _,_,_,h=>by simp [RC] at h
 | .sl (.own k) e,p,x,.s xs,hp,hm,h=>by
  simp only [CT.frz,RC,gX] at h ⊢;obtain ⟨ao,cap,h1,h2,h3⟩:=h;refine ⟨ao,cap,h1,h2,?_⟩;rcases h3 with ⟨rfl,rfl⟩|⟨b,o,g1,g2,g3,g4,g5⟩
  ·left;exact List.length_eq_zero_iff.1 (by omega)
  ·right;have hb:κ' b=none:=hk b p.2 (by rw [g3,<-hp]) hm;refine ⟨b,o,g1,⟨g2,fun r q hq=>by rw [hb] at hq;cases hq⟩,fun o' h1 h2'=>(g4 o' h1 ?_).1,RJ hro hk hp hm g5⟩;have:=Nat.mul_le_mul_right e.length h2;omega
 | .sl (.ro S) e,p,x,.s xs,hp,hm,h=>by
  simp only [CT.frz,RC,gX] at h ⊢;obtain ⟨ao,cap,h1,h2,h3⟩:=h;refine ⟨ao,cap,h1,h2,?_⟩;rcases h3 with h3|⟨b,o,g1,g2,g3,g4⟩
  ·exact .inl h3
  ·exact .inr ⟨b,o,g1,hro S b g2,g3,RJ hro hk hp hm g4⟩
 | .sl .dead e,p,x,.s xs,_,_,h=>by simp [CT.frz,RC]
 | .sl .dead e,p,x,.v _,_,_,h=>by simp [CT.frz,RC]
 | .sl (.own k) e,p,x,.v _,_,_,h=>by simp [RC] at h
 | .sl (.ro S) e,p,x,.v _,_,_,h=>by simp [RC] at h
theorem aaT (hro:∀S b,aW κ w S b->aW κ' w S b) (hk:∀b q,κ b=some (t,q)->p0 <+: q->κ' b=none):∀{cs:List CT} {p:Pl} {j:Nat} {get:Nat->Value} {as:List A},p.1=t->p0 <+: p.2->ax κ w cs p j get as->ax κ' w (CT.frzs cs) p j get as
 | [],_,_,_,[],_,_,_=>by simp [CT.frzs,ax]
 | [],_,_,_,_::_,_,_,h=>by simp [ax] at h
 | c::cs,p,j,get,[],_,_,h=>by simp [ax] at h
 | c::cs,p,j,get,a::as,hp,hm,h=>by
  simp only [CT.frzs,ax] at h ⊢;exact ⟨aeI hro hk (by simpa [Pl.at] using hp) (hm.trans (by simp [Pl.at])) h.1,aaT hro hk hp hm h.2⟩
theorem RJ (hro:∀S b,aW κ w S b->aW κ' w S b) (hk:∀b q,κ b=some (t,q)->p0 <+: q->κ' b=none):∀{e:List CT} {p:Pl} {j:Nat} {get:Nat->Value} {xs:List (List A)},p.1=t->p0 <+: p.2->bO κ w e p j get xs->bO κ' w (CT.frzs e) p j get xs
 | _,_,_,_,[],_,_,_=>by simp [bO]
 | e,p,j,get,x::xs,hp,hm,h=>by
  simp only [bO,gX] at h ⊢;exact ⟨aaT hro hk hp hm h.1,RJ hro hk hp hm h.2⟩
end
end
def mr:Nat->List CT->List CT
 | 0,c::cs=>c.frz::cs
 | k+1,c::cs=>c::mr k cs
 | _,[]=>[]
theorem Yg:∀(k:Nat) (cs:List CT),(mr k cs).length=cs.length
 | 0,c::cs=>rfl
 | k+1,c::cs=>by simp [mr,Yg k cs]
 | 0,[]=>rfl
 | _+1,[]=>rfl
def Ak (t k:Nat) (κ:aH):aH:=fun b=>
 match κ b with
 | some (r,m::q)=>if r=t/\m=k then none else some (r,m::q)
 | x=>x
theorem Yh {t k:Nat} {κ:aH} {b:Nat} (h:κ b=none):Ak t k κ b=none:=by simp [Ak,h]
theorem Yi {t k:Nat} {κ:aH} {b r:Nat} {q:List Nat} (h:Ak t k κ b=some (r,q)):κ b=some (r,q):=by
 unfold Ak at h;split at h
 ·rename_i hk;split at h
  ·cases h
  ·rw [hk];exact h
 ·exact h
theorem Px {t k:Nat} {κ:aH} {b r:Nat} {q:List Nat} (h:κ b=some (r,q)) (hr:r≠t\/∀q',q≠k::q'):Ak t k κ b=some (r,q):=by
 unfold Ak;split
 ·rename_i r' m q' hk;rw [h] at hk;cases hk;rw [if_neg (by rintro ⟨h1,h2⟩;rcases hr with hr|hr<;>first|exact hr h1|exact hr q' (by rw [h2]))]
 ·exact h
mutual
theorem aaU {P:List Nat->Prop} (h:∀S,P S):∀c:CT,c.allS P
 | .d=>by simp [CT.allS]
 | .sl (.ro S) e=>by simp only [CT.allS];exact ⟨h S,wY h e⟩
 | .sl (.own _) e=>by simp only [CT.allS];exact wY h e
 | .sl .dead e=>by simp only [CT.allS];exact wY h e
theorem wY {P:List Nat->Prop} (h:∀S,P S):∀cs:List CT,CT.allSs P cs
 | []=>by simp [CT.allSs]
 | c::cs=>by simp only [CT.allSs];exact ⟨aaU h c,wY h cs⟩
end
theorem WK {κ:aH} {w:World} {t k0:Nat} (S:List Nat) (b:Nat) (hb:aW κ w S b):aW (Ak t k0 κ) w S b:=⟨hb.1,fun r q hq=>hb.2 r q (Yi hq)⟩
theorem aoe {κ:aH} {t k0:Nat} (b:Nat) (q:List Nat) (hb:κ b=some (t,q)) (hq:[k0] <+: q):Ak t k0 κ b=none:=by
 obtain ⟨q',rfl⟩:=hq;simp [Ak,hb]
theorem Yj {κ:aH} {w:World} {t k0:Nat}:∀{cs:List CT} {j k:Nat} {get:Nat->Value} {as:List A},k0=j+k->ax κ w cs (t,[]) j get as->ax (Ak t k0 κ) w (mr k cs) (t,[]) j get as
 | [],j,k,get,[],_,_=>by cases k<;>simp [ax,mr]
 | [],j,k,get,_::_,_,h=>by simp [ax] at h
 | c::cs,j,k,get,[],_,h=>by simp [ax] at h
 | c::cs,j,0,get,a::as,hj,h=>by
  simp only [mr,ax] at h ⊢;refine ⟨aeI WK aoe rfl (by simp [Pl.at,hj]) h.1,?_⟩;refine Rq (wY (fun S b hb=>⟨WK S b hb,Same.refl w b⟩) cs) (fun i hi b q hb => ?_) (fun _ _=>rfl) h.2;refine ⟨?_,Same.refl w b⟩;rw [hb];exact Px hb (.inr fun q' hq=>by simp only [List.nil_append,List.cons.injEq] at hq;omega)
 | c::cs,j,k+1,get,a::as,hj,h=>by
  simp only [mr,ax] at h ⊢;refine ⟨?_,Yj (by omega) h.2⟩;refine qG (aaU (fun S b hb=>⟨WK S b hb,Same.refl w b⟩) c) (fun b q hb => ?_) h.1;refine ⟨?_,Same.refl w b⟩;rw [hb];exact Px hb (.inr fun q' hq=>by simp only [Pl.at,List.nil_append,List.cons_append,List.cons.injEq] at hq;omega)
def Py (N:Nat) (g:Nat->TT) (r k:Nat):Option Stp:=
 match g r with
 | .box cs=>if r<N/\fe (mr k cs)=true then some ⟨[(r,.box (mr k cs))],fun T=>T.kill [r] [],[r],.det fun _=>none⟩ else none
 | _=>none
theorem apr {ac:Nat->Nat->Value} {κ0 κ:aH} {w0 w:World} {N:Nat} {tg:Nat->TT} {sv:Nat->AV} {tm:Nat->Value} (h:R ac κ0 w0 κ w N tg sv tm) {r k:Nat} {cs:List CT} (ht:tg r = .box cs) (htN:r<N) (hnp:fe (mr k cs)=true) :
  R ac κ0 w0 (Ak r k κ) w N (ay (fun u=>(tg u).kill [r] []) [(r,.box (mr k cs))]) sv tm:=by
 refine oJ (mods:=[r]) (M:=[]) h ?_ (fun S hS b hb=>⟨⟨hb.1,fun r q hq=>hb.2 r q (Yi hq)⟩,Same.refl w b⟩) (fun b r' q hr hb => ?_) (fun r' hr => ?_) (fun _ _=>rfl) (fun _ _=>rfl) (fun u hu => ?_) (fun u hu => ?_) (fun b hb=>Yh (h.col b hb)) ?_
 ·have:=h.nle;simp only [List.mem_singleton];omega
 ·simp only [List.mem_singleton] at hr;exact ⟨by rw [hb];exact Px hb (.inl hr),Same.refl w b⟩
 ·simp only [List.mem_singleton] at hr;left;simp [ay,hr]
 ·simp only [List.mem_singleton] at hu;subst hu;have h1:=h.tr u;rw [ht] at h1;simp only [TR] at h1;obtain ⟨as,b,g1,g2,g3,g4,g5,g6,g7⟩:=h1;simp only [ay,if_true,TR];exact ⟨as,b,g1,g2,g3,Px g4 (.inr fun q' hq=>by cases hq),by rw [Yg];exact g5,dV hnp,Yj (by omega) g7⟩
 ·have:u≠r:=by omega
  simp only [ay,if_neg this,h.out u hu];rfl
 ·refine ⟨h.fr.size,fun b hb h0 => ?_,h.fr.os,h.fr.out,h.fr.tape⟩;have:=h.fr.kept b hb h0;exact ⟨Yh this.1,this.2⟩
def Stp.frzB (r:Nat) (S1 S2:Stp):Stp:=⟨S2.up++S1.up.map (fun p=>(p.1,S2.kl p.2)),fun T=>S2.kl (S1.kl T),r::S2.rd,S2.eff⟩
theorem aof {P:Program} {N:Nat} {g:Nat->TT} {o:Oper} {r k:Nat} {S1 S2:Stp} (h1:Py N g r k=some S1) (h2:cK P N o (xL g S1) S2) (hv:∀s v,S2.eff.rel P s v->v.length<=S2.up.length) :
  cK P N o g (Stp.frzB r S1 S2):=by
 intro ac κ0 κ w0 w tg sv s a v next Q hN hR hL hrel hcont;simp only [Stp.frzB] at hrel;unfold Py at h1;split at h1;case h_2=>cases h1
 case h_1 cs hT=>
 split at h1;case isFalse=>cases h1
 case isTrue hc=>
 cases h1;obtain ⟨e1,e2⟩:=hL.at hT (by simp);have hR':=apr (k:=k) hR e1 hc.1 hc.2;have hL':Le (xL g ⟨[(r,.box (mr k cs))],fun T=>T.kill [r] [],[r],.det fun _=>none⟩) s (ay (fun u=>(tg u).kill [r] []) [(r,.box (mr k cs))]) sv:=by
  intro u;simp only [xL,ay];by_cases hut:u=r
  ·right;subst hut;exact ⟨by simp,e2.symm⟩
  ·simp only [if_neg hut];rcases hL u with h3|⟨h3,h4⟩
   ·left;rw [h3];rfl
   ·right;exact ⟨by rw [h3],h4⟩
 refine h2 ac κ0 _ w0 w _ sv s a v next Q hN hR' hL' hrel fun x w' κ'' tg'' sv'' hR'' htg'' hsv'' => ?_
 have hvl:=hv _ _ hrel;refine hcont x w' κ'' tg'' sv'' hR'' (fun u => ?_) (fun u => ?_)
 ·rw [htg'' u];simp only [Stp.frzB];rw [Aj];by_cases hu:u∈S2.up.map (·.1)
  ·exact bA.upds_in hu
  ·rw [bA.upds_out hu,bA.upds_out hu];simp only [ay,List.map_cons,List.map_nil];split<;>rfl
 ·rw [hsv'' u];simp only [Stp.frzB];have hz:((S2.up++[(r,TT.box (mr k cs))].map fun p=>(p.1,S2.kl p.2)).map (·.1)).zip v=(S2.up.map (·.1)).zip v:=by
   rw [List.map_append];exact FQ (by simpa using hvl)
  rw [hz]
def aaV (P:Program) (sigs:FuncId->Option aI) (N:Nat) (hint:Bool) (o:Oper):List Nat->(Nat->TT)->List Nat->Option Stp
 | [],g,tk=>WI P sigs N hint o g tk
 | x::xs,g,tk=>match Nat.ble 4000000000 x with
  | true=>match xs,tk with
   | _,_=>none
  | false=>match Py N g (x % 1000000000 / 1000) (x % 1000) with
   | some S1=>match aaV P sigs N hint o xs (xL g S1) tk with
    | some S2=>some (Stp.frzB (x % 1000000000 / 1000) S1 S2)
    | none=>none
   | none=>none
theorem aeJ {P:Program} {sigs:FuncId->Option aI} {N:Nat} {hint:Bool} {o:Oper}:∀{xs:List Nat} {g:Nat->TT} {tk:List Nat} {S:Stp},aaV P sigs N hint o xs g tk=some S ->
  cK P N o g S/\S.kl .dead = .dead/\∀s v,S.eff.rel P s v->v.length<=S.up.length/\0<v.length
 | [],g,tk,S,h=>WJ (by simpa only [aaV] using h)
 | x::xs,g,tk,S,h=>by
  simp only [aaV] at h
  split at h
  case h_1=>cases h
  case h_2=>
  split at h
  case h_2=>cases h
  case h_1 S1 h1=>
  split at h
  case h_2=>cases h
  case h_1 S2 h2=>
  cases h
  obtain ⟨k1,k2,k3⟩:=aeJ h2
  have hk:S1.kl .dead = .dead:=by
   unfold Py at h1;split at h1
   ·split at h1
    ·cases h1;rfl
    ·cases h1
   ·cases h1
  refine ⟨aof h1 k1 (fun s v hv=>(k3 s v hv).1),by simp only [Stp.frzB];rw [hk,k2],fun s v hv => ?_⟩
  have:=k3 s v hv
  simp only [Stp.frzB,bq]
  omega
end Go.Fw
namespace Go.Fw
structure OpR where
 S:Bool->Stp
 cb:(Nat->AV)->Option Bool
 up:List (Nat × TT)
 d:Option Nat
 gd:Option (Nat × Bool)
 g:Bool->Nat->TT
 hide:List Nat
 pk:Option Nat
def m_ (rs:List OpR) (i:Nat):List (Nat × TT):=match rs[i]? with
 | some o=>o.up
 | none=>[]
def wZ (rs:List OpR) (i:Nat):Option Nat:=match rs[i]? with
 | some o=>o.d
 | none=>none
def bg (rs:List OpR) (bef:Nat->Nat->Bool) (D0:Nat->TT) (s0:Nat->AV) (np:Nat->Bool) (px:Nat->Value) (wl:List Bool) (vl:List (List AV)):bA:=
 ⟨rs.length,m_ rs,wZ rs,bef,D0,s0,fun i=>wl.getD i false,fun i=>vl.getD i [],np,px⟩
def iG (s:Nat->AV) (t:Nat):Option Bool:=
 match s t with
 | .v [.v (.bool c)] _=>some c
 | _=>none
def jV (rs:List OpR) (wl:List Bool) (s:Nat->AV) (o:OpR):Bool:=
 match o.gd with
 | none=>true
 | some (j,b)=>wl.getD j false&&(match wZ rs j with
  | some t=>(match iG s t with
   | some c=>c == b
   | none=>false)
  | none=>false)
def rR (P:Program) (rs:List OpR):List OpR->List Bool->(Nat->AV)->((Nat->AV)->Prop)->Prop
 | [],_,s,K=>K s
 | o::os,wl,s,K=>if jV rs wl s o then ∃b v,o.cb s=some b/\(o.S b).eff.rel P s v/\rR P rs os (wl++[true]) (ay s ((o.up.map (·.1)).zip v)) K
  else rR P rs os (wl++[false]) s K
def allT:Nat->Bool:=fun _=>true
theorem aaW {r r':bA} (h0:r.s0=r'.s0) (L:Nat->Bool):∀k,(∀j,j<k->r.up j=r'.up j/\r.wn j=r'.wn j/\(r.wn j=true->r.vv j=r'.vv j))->r.sL L k=r'.sL L k:=by
 intro k;induction k with
 | zero=>intro _;exact h0
 | succ k ih=>
  intro h;have ih:=ih fun j hj=>h j (by omega)
  obtain ⟨h1,h2,h3⟩:=h k (by omega);simp only [bA.sL,bA.sS,ih,h1,h2];cases hw:r'.wn k with
  | false=>rfl
  | true=>rw [h3 (by rw [h2,hw])]
section
variable {P:Program} {rs:List OpR} {bef:Nat->Nat->Bool} {D0:Nat->TT} {s0:Nat->AV} {np:Nat->Bool} {px:Nat->Value} {K:(Nat->AV)->Prop}
theorem oU {α:Type} {l m:List α} {j:Nat} {x:α} (h:j<l.length):(l++m).getD j x=l.getD j x:=by
 simp only [bN,List.getElem?_append_left h]
theorem aeK (hgd:∀(i:Nat) (o:OpR) (j:Nat) (b:Bool),rs[i]?=some o->o.gd=some (j,b)->j<i):∀{os pre:List OpR} {wl:List Bool} {vl:List (List AV)},rs=pre++os->wl.length=pre.length->vl.length=pre.length ->
  rR P rs os wl ((bg rs bef D0 s0 np px wl vl).sL allT pre.length) K ->
  ∃wl' vl',(∀j,j<pre.length->wl'.getD j false=wl.getD j false/\vl'.getD j []=vl.getD j [])/\K ((bg rs bef D0 s0 np px wl' vl').sL allT rs.length) /\
   ∀i o,pre.length<=i->rs[i]?=some o->wl'.getD i false=jV rs wl' ((bg rs bef D0 s0 np px wl' vl').sL allT i) o /\
    (wl'.getD i false=true->∃b,o.cb ((bg rs bef D0 s0 np px wl' vl').sL allT i)=some b/\(o.S b).eff.rel P ((bg rs bef D0 s0 np px wl' vl').sL allT i) (vl'.getD i []))
 | [],pre,wl,vl,hrs,h1,h2,h=>by
  simp only [List.append_nil] at hrs
  refine ⟨wl,vl,fun j _=>⟨rfl,rfl⟩,?_,fun i o hi ho => ?_⟩
  ·simp only [rR] at h
   rw [show rs.length=pre.length from by rw [hrs]];exact h
  ·have:=(aY ho).1
   rw [hrs] at this;omega
 | o::os,pre,wl,vl,hrs,h1,h2,h=>by
  have ho:rs[pre.length]?=some o:=by rw [hrs];simp
  have hup:m_ rs pre.length=o.up:=by unfold m_;rw [ho]
  -- one more
  have step:∀(x:Bool) (v:List AV),rR P rs os (wl++[x]) ((bg rs bef D0 s0 np px (wl++[x]) (vl++[v])).sL allT (pre++[o]).length) K ->
    (x=jV rs wl ((bg rs bef D0 s0 np px wl vl).sL allT pre.length) o)->(x=true->∃b,o.cb ((bg rs bef D0 s0 np px wl vl).sL allT pre.length)=some b/\(o.S b).eff.rel P ((bg rs bef D0 s0 np px wl vl).sL allT pre.length) v) ->
    ∃wl' vl',(∀j,j<pre.length->wl'.getD j false=wl.getD j false/\vl'.getD j []=vl.getD j [])/\K ((bg rs bef D0 s0 np px wl' vl').sL allT rs.length) /\
     ∀i o,pre.length<=i->rs[i]?=some o->wl'.getD i false=jV rs wl' ((bg rs bef D0 s0 np px wl' vl').sL allT i) o /\
      (wl'.getD i false=true->∃b,o.cb ((bg rs bef D0 s0 np px wl' vl').sL allT i)=some b/\(o.S b).eff.rel P ((bg rs bef D0 s0 np px wl' vl').sL allT i) (vl'.getD i [])):=by
   intro x v hW hx hv;obtain ⟨wl',vl',k1,k2,k3⟩:=aeK hgd (os:=os) (pre:=pre++[o]) (wl:=wl++[x]) (vl:=vl++[v]) (by rw [hrs];simp) (by simp [h1]) (by simp [h2]) hW;have hpre:∀j,j<pre.length->wl'.getD j false=wl.getD j false/\vl'.getD j []=vl.getD j []:=fun j hj=>by
    obtain ⟨g1,g2⟩:=k1 j (by simp;omega);rw [oU (by omega)] at g1 g2;exact ⟨g1,g2⟩
   refine ⟨wl',vl',hpre,k2,fun i o' hi ho' => ?_⟩;by_cases hii:i=pre.length
   ·subst hii;rw [ho] at ho';cases ho';have hs:(bg rs bef D0 s0 np px wl' vl').sL allT pre.length=(bg rs bef D0 s0 np px wl vl).sL allT pre.length:=aaW (r:=bg rs bef D0 s0 np px wl' vl') (r':=bg rs bef D0 s0 np px wl vl) rfl allT pre.length fun j hj=>⟨rfl,(hpre j hj).1,fun _=>(hpre j hj).2⟩
    obtain ⟨g1,g2⟩:=k1 pre.length (by simp);have e1:(wl++[x]).getD pre.length false=x:=by rw [<-h1];simp [bN]
    have e2:(vl++[v]).getD pre.length []=v:=by rw [<-h2];simp [bN]
    rw [e1] at g1;rw [e2] at g2;rw [hs,g1,g2];refine ⟨?_,hv⟩;rw [hx];unfold jV;cases hg:o.gd with
    | none=>rfl
    | some p=>
     obtain ⟨j,b⟩:=p;have:=hgd _ _ _ _ ho hg;simp only;rw [(hpre j this).1]
   ·exact k3 i o' (by simp;omega) ho'
  simp only [rR] at h
  split at h
  ·rename_i hw
   obtain ⟨b,v,hb,hrel,hW⟩:=h
   refine step true v ?_ hw.symm fun _=>⟨b,hb,hrel⟩
   have:(bg rs bef D0 s0 np px (wl++[true]) (vl++[v])).sL allT (pre++[o]).length=ay ((bg rs bef D0 s0 np px wl vl).sL allT pre.length) ((o.up.map (·.1)).zip v):=by
    rw [bq,List.length_singleton]
    simp only [bA.sL,allT,if_true]
    have hs:(bg rs bef D0 s0 np px (wl++[true]) (vl++[v])).sL allT pre.length=(bg rs bef D0 s0 np px wl vl).sL allT pre.length:=aaW (r:=bg rs bef D0 s0 np px (wl++[true]) (vl++[v])) (r':=bg rs bef D0 s0 np px wl vl) rfl _ pre.length fun j hj=>⟨rfl,oU (by omega),fun _=>oU (by omega)⟩
    rw [hs]
    unfold bA.sS
    have e1:(wl++[true]).getD pre.length false=true:=by rw [<-h1];simp [bN]
    have e2:(vl++[v]).getD pre.length []=v:=by rw [<-h2];simp [bN]
    simp only [bg,e1,e2,hup,if_true]
   rw [this];exact hW
  ·rename_i hw
   refine step false [] ?_ (by simpa using hw) fun hx=>by cases hx
   have:(bg rs bef D0 s0 np px (wl++[false]) (vl++[[]])).sL allT (pre++[o]).length=(bg rs bef D0 s0 np px wl vl).sL allT pre.length:=by
    rw [bq,List.length_singleton]
    simp only [bA.sL,allT,if_true]
    have hs:(bg rs bef D0 s0 np px (wl++[false]) (vl++[[]])).sL allT pre.length=(bg rs bef D0 s0 np px wl vl).sL allT pre.length:=aaW (r:=bg rs bef D0 s0 np px (wl++[false]) (vl++[[]])) (r':=bg rs bef D0 s0 np px wl vl) rfl _ pre.length fun j hj=>⟨rfl,oU (by omega),fun _=>oU (by omega)⟩
    rw [hs]
    unfold bA.sS
    have e1:(wl++[false]).getD pre.length false=false:=by rw [<-h1];simp [bN]
    simp only [bg,e1,Bool.false_eq_true,if_false]
   rw [this];exact h
end
end Go.Fw
namespace Go.Fw
def Z8 (a b:Sk):Bool:=decide (a=b)
def TT.beq:TT->TT->Bool
 | .dead,.dead=>true
 | .val a c,.val a' c'=>(a == a')&&CT.beqs c c'
 | .alias a c r sk off S,.alias a' c' r' sk' off' S'=>(a == a')&&CT.beqs c c'&&(r == r')&&Z8 sk sk'&&(off == off')&&decide (S=S')
 | .box c,.box c'=>CT.beqs c c'
 | .ptr r sk off S,.ptr r' sk' off' S'=>(r == r')&&Z8 sk sk'&&(off == off')&&decide (S=S')
 | .tup ws c,.tup ws' c'=>decide (ws=ws')&&CT.beqs c c'
 | _,_=>false
theorem TT.beq_eq:∀{T T':TT},T.beq T'=true->T=T'
 | .dead,T',h=>by cases T'<;>simp [TT.beq] at h;rfl
 | .val a c,T',h=>by
  cases T'<;>simp [TT.beq] at h;rw [h.1,CT.beqs_eq h.2]
 | .alias a c r sk off S,T',h=>by
  cases T'<;>simp [TT.beq,Z8] at h;obtain ⟨⟨⟨⟨⟨h1,h2⟩,h3⟩,h4⟩,h5⟩,h6⟩:=h;rw [h1,CT.beqs_eq h2,h3,h4,h5,h6]
 | .box c,T',h=>by
  cases T'<;>simp [TT.beq] at h;rw [CT.beqs_eq h]
 | .ptr r sk off S,T',h=>by
  cases T'<;>simp [TT.beq,Z8] at h;obtain ⟨⟨⟨h3,h4⟩,h5⟩,h6⟩:=h;rw [h3,h4,h5,h6]
 | .tup ws c,T',h=>by
  cases T'<;>simp [TT.beq] at h;rw [h.1,CT.beqs_eq h.2]
def okg (ch:List (Nat × Bool)):Option (Nat × Bool)->Bool
 | none=>true
 | some p=>ch.contains p
def FW (D0:Nat->TT) (ch:List (Nat × Bool)):List OpR->Nat->TT
 | [],t=>D0 t
 | o::rest,t=>if (o.up.map (·.1)).contains t then (if okg ch o.gd then ay (fun _=>.dead) o.up t else if o.d != some t&&(ay (fun _=>.dead) o.up t).beq (FW D0 ch rest t) then FW D0 ch rest t else .dead) else if o.d == some t then .dead else FW D0 ch rest t
def chR (rs:List OpR):Nat->Option (Nat × Bool)->List (Nat × Bool)
 | 0,_=>[]
 | _+1,none=>[]
 | f+1,some (j,b)=>(j,b)::(match rs[rs.length-1-j]? with
  | some o=>chR rs f o.gd
  | none=>[])
section
variable {D0:Nat->TT} {s0:Nat->AV} {np:Nat->Bool} {px:Nat->Value} {bef:Nat->Nat->Bool} {wl:List Bool} {vl:List (List AV)} {rs:List OpR}
theorem Yk {f:Nat->TT} {l:List (Nat × TT)} {t:Nat} (h:t∈l.map (·.1)):ay f l t=ay (fun _=>.dead) l t:=bA.upds_in h
theorem aaX {ch:List (Nat × Bool)} {L:Nat->Bool}:∀{pre:List OpR} {post:List OpR},rs=pre.reverse++post->(∀j,j<pre.length->L j=true) ->
  (∀j o,j<pre.length->rs[j]?=some o->okg ch o.gd=true->wl.getD j false=true)->∀t,FW D0 ch pre t = .dead\/FW D0 ch pre t=(bg rs bef D0 s0 np px wl vl).dL L pre.length t
 | [],post,hrs,hL,hw,t=>by right;simp [FW,bA.dL,bg]
 | o::pre,post,hrs,hL,hw,t=>by
  have ho:rs[pre.length]?=some o:=by
   rw [hrs];simp
  have hup:m_ rs pre.length=o.up:=by unfold m_;rw [ho]
  have hd:wZ rs pre.length=o.d:=by unfold wZ;rw [ho]
  have ih:=aaX (pre:=pre) (post:=o::post) (ch:=ch) (L:=L) (by rw [hrs];simp) (fun j hj=>hL j (by simp;omega)) (fun j o' hj=>hw j o' (by simp;omega)) t
  simp only [FW,aX,bA.dL]
  rw [hL pre.length (by simp),if_pos rfl]
  have hds:∀f,(bg rs bef D0 s0 np px wl vl).dS pre.length f t=if wl.getD pre.length false then ay f o.up t else if o.d=some t then .dead else f t:=by
   intro f
   unfold bA.dS
   rw [show (bg rs bef D0 s0 np px wl vl).up pre.length=o.up from hup,show (bg rs bef D0 s0 np px wl vl).dst pre.length=o.d from hd]
   by_cases hwl:wl.getD pre.length false=true
   ·rw [if_pos hwl,if_pos (show (bg rs bef D0 s0 np px wl vl).wn pre.length=true from hwl)]
   ·rw [if_neg hwl,if_neg (show ¬(bg rs bef D0 s0 np px wl vl).wn pre.length=true from hwl)]
  rw [hds]
  by_cases hm:(o.up.map (·.1)).contains t=true
  ·rw [if_pos hm]
   by_cases hg:okg ch o.gd=true
   ·rw [if_pos hg,hw pre.length o (by simp) ho hg,if_pos rfl]
    right
    exact (Yk (by simpa using hm)).symm
   ·rw [if_neg hg]
    split
    ·rename_i hc
     simp only [aG,bne_iff_ne,ne_eq] at hc
     have hbe:=TT.beq_eq hc.2
     cases hwl:wl.getD pre.length false with
     | true=>
      right
      rw [if_pos rfl,Yk (by simpa using hm),hbe]
     | false=>
      rw [if_neg (by simp),if_neg hc.1]
      exact ih
    ·exact .inl rfl
  ·rw [if_neg hm]
   by_cases hdt:o.d=some t
   ·rw [if_pos (by simpa using hdt)];exact .inl rfl
   ·rw [if_neg (by simpa using hdt)]
    have hm':t∉o.up.map (·.1):=by simpa using hm
    rw [bA.upds_out hm',if_neg hdt]
    split
    ·exact ih
    ·exact ih
end
def idxOf (c:Nat):List OpR->Option Nat
 | []=>none
 | o::rest=>if o.d == some c then some rest.length else idxOf c rest
def G5 (d c:Nat) (X Y:DX) (b:Bool):Stp:=
 Stp.set d (.val false [.d]) [] (.det fun s=>match iG s c with
  | some v=>if v=b then (match (if b then X else Y).get s with
   | some v=>some [.v [.v v] []]
   | none=>none) else none
  | none=>none)
def alv (D0l:List TT):List (TT × Nat):=D0l.zipIdx.filter fun p=>!p.1.isDead
def amE (D0l:List TT) (rs:List OpR) (dom:List Nat) (kl:TT->TT) (beq:TT->TT->Bool):List Nat:=
 ((alv D0l).filterMap fun p=>if dom.contains p.2 || beq (kl p.1) p.1 then none else some p.2) ++
 rs.flatMap fun o=>o.up.filterMap fun p=>if dom.contains p.1 || beq (kl p.2) p.2 then none else some p.1
structure Hint where
 al:Bool
 tk:List Nat
 hd:List Nat
def Al (P:Program) (sigs:FuncId->Option aI) (N:Nat) (D0l:List TT) (rs:List OpR) (hide:List Nat) (h:Hint) (o:Oper):Option OpR:=
 let ch:=chR rs (rs.length+1) o.guard
 let g:=fun t=>if hide.contains t then .dead else FW (gt D0l) ch rs t
 match o.op,o.dst with
 | .pick (.tmp c) x y,some d=>
  let chb:=fun b:Bool=>match idxOf c rs with
   | some j=>(match rs[rs.length-1-j]? with
    | some oj=>if okg ch oj.gd then (j,b)::ch else ch
    | none=>ch)
   | none=>ch
  let gb:=fun b:Bool=>fun t=>if hide.contains t then TT.dead else FW (gt D0l) (chb b) rs t
  match jU (gb true) x,jU (gb false) y,jU (gb true) (.tmp c),jU (gb false) (.tmp c) with
  | some X,some Y,some _,some _=>if d<N then
    let S:=G5 d c X Y
    let ks:=amE D0l rs [d] (S true).kl TT.beq
    some ⟨S,fun s=>iG s c,(S true).up++ks.map (fun t=>(t,.dead)),some d,o.guard,gb,hide,some c⟩ else none
  | _,_,_,_=>none
 | _,_=>match aaV P sigs N h.al o (h.hd.filter fun x=>Nat.ble 3000000000 x) g h.tk with
  | some S=>
   let ks:=amE D0l rs (S.up.map (·.1)) S.kl TT.beq
   some ⟨fun _=>S,fun _=>some true,S.up++ks.map (fun t=>(t,.dead)),o.dst,o.guard,fun _=>g,hide,none⟩
  | none=>none
end Go.Fw
namespace Go.Fw
section
variable {α:Type}
def fN (n:Nat) (k:Nat->α):α:=match n with
 | 0=>k 0
 | m+1=>k (m+1)
theorem rT (n:Nat) (k:Nat->α):fN n k=k n:=by cases n<;>rfl
def fB (b:Bool) (k:Bool->α):α:=match b with
 | true=>k true
 | false=>k false
theorem agu (b:Bool) (k:Bool->α):fB b k=k b:=by cases b<;>rfl
def fL {β:Type} (f:β->(β->α)->α):List β->(List β->α)->α
 | [],k=>k []
 | x::l,k=>f x fun x=>fL f l fun l=>k (x::l)
theorem zm {β:Type} {f:β->(β->α)->α} (hf:∀x k,f x k=k x):∀(l:List β) (k:List β->α),fL f l k=k l
 | [],k=>rfl
 | x::l,k=>by rw [fL,hf,zm hf l]
def fP (p:Nat × Nat) (k:Nat × Nat->α):α:=fN p.1 fun a=>fN p.2 fun b=>k (a,b)
theorem agv (p:Nat × Nat) (k:Nat × Nat->α):fP p k=k p:=by unfold fP;rw [rT,rT]
def fW (p:Bool × Nat) (k:Bool × Nat->α):α:=fB p.1 fun a=>fN p.2 fun b=>k (a,b)
theorem aqP (p:Bool × Nat) (k:Bool × Nat->α):fW p k=k p:=by unfold fW;rw [agu,rT]
def fMd:Md->(Md->α)->α
 | .own none,k=>k (.own none)
 | .own (some p),k=>fP p fun p=>k (.own (some p))
 | .ro S,k=>fL fN S fun S=>k (.ro S)
 | .dead,k=>k .dead
theorem aps (m:Md) (k:Md->α):fMd m k=k m:=by
 cases m with
 | own p=>cases p with
  | none=>rfl
  | some p=>rw [fMd,agv]
 | ro S=>rw [fMd,zm rT]
 | dead=>rfl
mutual
def fC:CT->(CT->α)->α
 | .d,k=>k .d
 | .sl m e,k=>fMd m fun m=>Yl e fun e=>k (.sl m e)
def Yl:List CT->(List CT->α)->α
 | [],k=>k []
 | c::cs,k=>fC c fun c=>Yl cs fun cs=>k (c::cs)
end
mutual
theorem aqQ:∀(c:CT) (k:CT->α),fC c k=k c
 | .d,k=>rfl
 | .sl m e,k=>by rw [fC,aps,FX e]
theorem FX:∀(c:List CT) (k:List CT->α),Yl c k=k c
 | [],k=>rfl
 | c::cs,k=>by rw [Yl,aqQ c,FX cs]
end
def fT:TT->(TT->α)->α
 | .dead,k=>k .dead
 | .val ag cs,k=>fB ag fun ag=>Yl cs fun cs=>k (.val ag cs)
 | .alias ag cs r sk off S,k=>fB ag fun ag=>Yl cs fun cs=>fN r fun r=>fL fP sk fun sk=>fN off fun off=>fL fN S fun S=>k (.alias ag cs r sk off S)
 | .box cs,k=>Yl cs fun cs=>k (.box cs)
 | .ptr r sk off S,k=>fN r fun r=>fL fP sk fun sk=>fN off fun off=>fL fN S fun S=>k (.ptr r sk off S)
 | .tup ws cs,k=>fL fW ws fun ws=>Yl cs fun cs=>k (.tup ws cs)
theorem amG (T:TT) (k:TT->α):fT T k=k T:=by
 cases T with
 | dead=>rfl
 | val ag cs=>rw [fT,agu,FX]
 | alias ag cs r sk off S=>rw [fT,agu,FX,rT,zm agv,rT,zm rT]
 | box cs=>rw [fT,FX]
 | ptr r sk off S=>rw [fT,rT,zm agv,rT,zm rT]
 | tup ws cs=>rw [fT,zm aqP,FX]
def fTs (l:List TT) (k:List TT->α):α:=fL fT l k
theorem ajb (l:List TT) (k:List TT->α):fTs l k=k l:=zm amG l k
def fU (p:Nat × TT) (k:Nat × TT->α):α:=fN p.1 fun a=>fT p.2 fun b=>k (a,b)
theorem aqR (p:Nat × TT) (k:Nat × TT->α):fU p k=k p:=by unfold fU;rw [rT,amG]
def fUp (l:List (Nat × TT)) (k:List (Nat × TT)->α):α:=fL fU l k
theorem apu (l:List (Nat × TT)) (k:List (Nat × TT)->α):fUp l k=k l:=zm aqR l k
end
end Go.Fw
namespace Go.Fw
def jW (P:Program) (sigs:FuncId->Option aI) (N:Nat) (D0l:List TT) (hid:Nat->List Nat) (hints:List Hint):Nat->List Oper->List OpR->Option (List OpR)
 | _,[],rs=>some rs.reverse
 | i,o::os,rs=>match Al P sigs N D0l rs (hid i) (hints.getD i ⟨false,[],[]⟩) o with
  | some x=>fUp x.up fun up=>jW P sigs N D0l hid hints (i+1) os ({ x with up:=up }::rs)
  | none=>none
def oG (rs:List OpR) (i:Nat):List Nat:=(m_ rs i).map (·.1)++(wZ rs i).toList
theorem Ym {P:Program} {sigs:FuncId->Option aI} {N:Nat} {D0l:List TT} {hid:Nat->List Nat} {hints:List Hint}:∀{os:List Oper} {rs0 rs:List OpR} {i:Nat},jW P sigs N D0l hid hints i os rs0=some rs->rs0.length=i ->
  rs.length=i+os.length/\(∃post,rs=rs0.reverse++post)/\∀k o,os[k]?=some o->∃x,rs[i+k]?=some x/\Al P sigs N D0l ((rs.take (i+k)).reverse) (hid (i+k)) (hints.getD (i+k) ⟨false,[],[]⟩) o=some x
 | [],rs0,rs,i,h,hl=>by
  simp only [jW,aF] at h
  subst h
  exact ⟨by simp [hl],⟨[],by simp⟩,fun k o hk=>by simp at hk⟩
 | o::os,rs0,rs,i,h,hl=>by
  simp only [jW] at h
  split at h
  case h_2=>cases h
  case h_1 x hx=>
  rw [apu] at h
  have h:jW P sigs N D0l hid hints (i+1) os (x::rs0)=some rs:=h
  obtain ⟨k1,⟨post,k2⟩,k3⟩:=Ym h (by simp [hl])
  refine ⟨by simp only [aX];omega,⟨x::post,by rw [k2];simp⟩,fun k o' hk => ?_⟩
  cases k with
  | zero=>
   simp at hk
   subst hk
   refine ⟨x,?_,?_⟩
   ·rw [k2];simp [<-hl]
   ·have:(rs.take (i+0)).reverse=rs0:=by
     rw [k2,Nat.add_zero,<-hl];simp
    rw [this];exact hx
  | succ k=>
   obtain ⟨x',g1,g2⟩:=k3 k o' (by simpa using hk)
   rw [show i+1+k=i+(k+1) from by omega] at g1 g2
   exact ⟨x',g1,g2⟩
structure agw (P:Program) (N:Nat) (o:Oper) (x:OpR):Prop where
 ok:∀b,cK P N o (x.g b) (x.S b)
 kl:∀b,(x.S b).kl=(x.S true).kl
 sup:∀b,(x.S b).up=(x.S true).up
 up:∃ks:List Nat,x.up=(x.S true).up++ks.map fun t=>(t,.dead)
 d:x.d=o.dst
 gd:x.gd=o.guard
 kd:(x.S true).kl .dead = .dead
 vl:∀b s v,(x.S b).eff.rel P s v->v.length<=(x.S b).up.length/\0<v.length
theorem aeN {P:Program} {N:Nat} {g:Nat->TT} {o:Oper} {d c:Nat} {x y:Operand} {X Y:DX} {b:Bool} (ho:o.op = .pick (.tmp c) x y) (hd:o.dst=some d) (hdN:d<N) (hx:jU g (if b then x else y)=some (if b then X else Y)) {C:DX}
  (hc:jU g (.tmp c)=some C):cK P N o g (G5 d c X Y b):=by
 intro ac κ0 κ w0 w tg sv s a v next Q hN hR hL hv hcont;simp only [G5,Stp.set,Eff.rel] at hv;split at hv;case h_2=>cases hv
 case h_1 cv hcv=>
 split at hv;case isFalse=>cases hv
 case isTrue hcb=>
 subst hcb;split at hv;case h_2=>cases hv
 case h_1 y' hy=>
 cases hv;obtain ⟨e1,e2⟩:=p8 hR hL hx hy;have hC:C = .t c:=by
  simp only [jU] at hc;split at hc
  ·cases hc;rfl
  ·cases hc
 subst hC;obtain ⟨e3,_⟩:=p8 hR hL hc (v:=.bool cv) (by
  simp only [DX.get]
  unfold iG at hcv
  split at hcv
  ·rename_i c' is hs;cases hcv;rw [hs]
  ·cases hcv)
 refine fK hd hN hdN (w':=w) (x:=y') ?_ (LP hR hdN e2 (Grows.refl w)) hcont;unfold execOp;rw [ho];simp only [e3];cases cv with
 | true=>simp only [if_true] at e1;simp only [e1];rfl
 | false=>simp only [Bool.false_eq_true,if_false] at e1;simp only [e1];rfl
theorem Yn {P:Program} {sigs:FuncId->Option aI} {N:Nat} {D0l:List TT} {rs:List OpR} {hide:List Nat} {h:Hint} {o:Oper} {x:OpR} (hx:Al P sigs N D0l rs hide h o=some x):agw P N o x:=by
 unfold Al at hx;simp only at hx;split at hx
 ·rename_i c xx yy d hop hd;split at hx;case h_2=>cases hx
  case h_1 X Y C1 C2 hX hY hC1 hC2=>
  split at hx;case isFalse=>cases hx
  case isTrue hdN=>
  cases hx;refine ⟨fun b => ?_,fun b=>rfl,fun b=>rfl,⟨_,rfl⟩,hd.symm,rfl,rfl,fun b s v hv => ?_⟩
  ·cases b with
   | true=>exact aeN hop hd hdN hX hC1
   | false=>exact aeN hop hd hdN hY hC2
  ·simp only [G5,Stp.set,Eff.rel] at hv ⊢;repeat' split at hv
   all_goals first
    | (cases hv;simp)
    | cases hv
 ·split at hx;case h_2=>cases hx
  case h_1 S hS=>
  cases hx;obtain ⟨k1,k2,k3⟩:=aeJ hS;exact ⟨fun b=>k1,fun b=>rfl,fun b=>rfl,⟨_,rfl⟩,rfl,rfl,k2,fun b s v hv=>k3 s v hv⟩
def qf (np:Nat->Bool) (N:Nat) (D0l:List TT) (rs:List OpR) (bef:Nat->Nat->Bool) (hid:Nat->List Nat):Bool:=
 (List.range rs.length).all fun i=>match rs[i]? with
  | none=>false
  | some o=>
   ((List.range rs.length).all fun j=>(j == i) || bef i j || bef j i || ((oG rs j).all fun t=>(hid i).contains t && !(oG rs i).contains t)) &&
   ((List.range rs.length).all fun j=>(j == i) || bef i j || ((m_ rs j).all fun p=>(o.up.map (·.1)).contains p.1 || ((o.S true).kl p.2).beq p.2)) &&
   ((alv D0l).all fun p=>(o.up.map (·.1)).contains p.2 || ((o.S true).kl p.1).beq p.1) &&
   (match o.d with
    | some d=>decide (d<N) && !np d
    | none=>true) &&
   (match o.gd with
    | none=>true
    | some (j,_)=>bef j i&&decide (j<i)&&(match wZ rs j with
      | some t=>((List.range rs.length).all fun k=>(k == j) || !(oG rs k).contains t)&&((m_ rs j).map (·.1)).contains t&&(ay (fun _=>TT.dead) (m_ rs j) t).beq (.val false [.d])
      | none=>false) &&
     (match o.d with
      | some d=>((alv D0l).all fun p=>(p.2 == d) || (p.1.kill [d] []).beq p.1)&&((List.range rs.length).all fun j=>(j == i) || bef i j || ((m_ rs j).all fun p=>(p.1 == d) || (p.2.kill [d] []).beq p.2))
      | none=>true)) &&
   ([true,false].all fun b=>((o.S b).up.drop 1).all fun p=>p.2.isDead || !(o.g b p.1).isDead) &&
   (match o.pk with
    | some c=>Nat.ble ((List.range rs.length).filter fun k=>(oG rs k).contains c).length 1
    | none=>true)
end Go.Fw
namespace Go.Fw
theorem apv {r:bA} {L:Nat->Bool} {j t:Nat} (hj:j<r.n) (hL:L j=true) (hw:r.wn j=true) (ht:t∈(r.up j).map (·.1)) (ho:∀k,k<r.n->r.Wd k t->k=j) :
  ∀k,j<k->k<=r.n->r.dL L k t=ay (fun _=>.dead) (r.up j) t:=by
 intro k;induction k with
 | zero=>intro h;omega
 | succ k ih=>
  intro h1 h2;simp only [bA.dL];by_cases hkj:k=j
  ·subst hkj;rw [hL,if_pos rfl];unfold bA.dS;rw [hw,if_pos rfl];exact bA.upds_in ht
  ·have hn:¬r.Wd k t:=fun hw'=>hkj (ho k (by omega) hw')
   have:=ih (by omega) (by omega);split
   ·rw [bA.dS_out hn];exact this
   ·exact this
theorem ajc {r:bA} {L:Nat->Bool} {j t:Nat} (ho:∀k,k<r.n->r.Wd k t->k=j):∀k,j<k->k<=r.n->r.sL L k t=r.sL L (j+1) t:=by
 intro k;induction k with
 | zero=>intro h;omega
 | succ k ih=>
  intro h1 h2;by_cases hkj:k=j
  ·rw [hkj]
  ·have hn:¬r.Wd k t:=fun hw'=>hkj (ho k (by omega) hw')
   have:=ih (by omega) (by omega);simp only [bA.sL];split
   ·rw [bA.sS_out hn];exact this
   ·exact this
theorem agx {r:bA} {k i:Nat} (h:k<=i):r.sL (bA.lt i) k=r.sL allT k:=bA.sL_congr k fun j hj=>by simp [bA.lt,allT];omega
theorem aeO {D0l:List TT} {t:Nat} {T:TT} (hT:D0l[t]?=some T) (hnd:T≠.dead):(T,t)∈alv D0l:=by
 unfold alv;rw [List.mem_filter,List.mem_zipIdx_iff_getElem?];refine ⟨hT,?_⟩;cases T<;>first|exact absurd rfl hnd|rfl
section
variable {P:Program} {sigs:FuncId->Option aI} {N:Nat} {D0l:List TT} {hid:Nat->List Nat} {hints:List Hint} {l:List Oper} {rs:List OpR} {bef:Nat->Nat->Bool} {s0:Nat->AV} {np:Nat->Bool} {px:Nat->Value} {wl:List Bool} {vl:List (List AV)}
theorem kE (hok:qf np N D0l rs bef hid=true) {i:Nat} {o:OpR} (ho:rs[i]?=some o) :
  (∀j,j<rs.length->j≠i->bef i j=false->bef j i=false->∀t,t∈oG rs j->t∈hid i/\t∉oG rs i) /\
  (∀j,j<rs.length->j≠i->bef i j=false->∀t T,(t,T)∈m_ rs j->t∉o.up.map (·.1)->(o.S true).kl T=T) /\
  (∀t T,D0l[t]?=some T->T≠.dead->t∉o.up.map (·.1)->(o.S true).kl T=T)/\(∀d,o.d=some d->d<N/\np d=false) /\
  (∀j b,o.gd=some (j,b)->bef j i=true/\j<i/\(∃t,wZ rs j=some t/\(∀k,k<rs.length->t∈oG rs k->k=j)/\t∈(m_ rs j).map (·.1)/\ay (fun _=>TT.dead) (m_ rs j) t = .val false [.d]) /\
   ∀d,o.d=some d->(∀t T,D0l[t]?=some T->t≠d->T.kill [d] []=T)/\∀k,k<rs.length->k≠i->bef i k=false->∀t T,(t,T)∈m_ rs k->t≠d->T.kill [d] []=T) /\
  (∀b p,p∈(o.S b).up.drop 1->p.2 = .dead\/o.g b p.1≠.dead) /\
  (∀c,o.pk=some c->∀k k',k<rs.length->k'<rs.length->c∈oG rs k->c∈oG rs k'->k=k'):=by
 have hi:=(aY ho).1;unfold qf at hok;rw [List.all_eq_true] at hok;have h:=hok i (List.mem_range.2 hi);rw [ho] at h;simp only [aG] at h;obtain ⟨⟨⟨⟨⟨⟨h1,h2⟩,h3⟩,h4⟩,h5⟩,h6⟩,h7⟩:=h;refine ⟨fun j hj hji hb1 hb2 t ht => ?_,fun j hj hji hb1 t T hT ht => ?_,fun t T hT hnd ht => ?_,fun d hd => ?_,fun j b hg => ?_,fun b p hp => ?_,fun c hc k k' hk hk' hck hck' => ?_⟩
 ·have:=(List.all_eq_true.1 h1) j (List.mem_range.2 hj);simp only [hb1,hb2,Bool.or_false,Bool.or_eq_true,beq_iff_eq] at this;have:=(List.all_eq_true.1 (this.resolve_left hji)) t ht;simpa using this
 ·have:=(List.all_eq_true.1 h2) j (List.mem_range.2 hj);simp only [hb1,Bool.or_false,Bool.or_eq_true,beq_iff_eq] at this;have:=(List.all_eq_true.1 (this.resolve_left hji)) (t,T) hT;simp only [Bool.or_eq_true] at this;rcases this with h|h
  ·exact absurd (by simpa using h) ht
  ·exact TT.beq_eq h
 ·have hm:(T,t)∈alv D0l:=aeO hT hnd;have:=(List.all_eq_true.1 h3) (T,t) hm;simp only [Bool.or_eq_true] at this;rcases this with h|h
  ·exact absurd (by simpa using h) ht
  ·exact TT.beq_eq h
 ·rw [hd] at h4;simpa using h4
 ·rw [hg] at h5;simp only [aG,decide_eq_true_eq] at h5;obtain ⟨⟨⟨g1,g2⟩,g3⟩,g4⟩:=h5;refine ⟨g1,g2,?_,fun d hd => ?_⟩
  ·split at g3
   ·rename_i t ht;simp only [aG] at g3;obtain ⟨⟨g5,g6⟩,g7⟩:=g3;refine ⟨t,ht,fun k hk hkt => ?_,by simpa using g6,TT.beq_eq g7⟩;have:=(List.all_eq_true.1 g5) k (List.mem_range.2 hk);simp only [Bool.or_eq_true,beq_iff_eq,Bool.not_eq_true'] at this;rcases this with h|h
    ·exact h
    ·simp at h;exact absurd hkt h
   ·cases g3
  ·rw [hd] at g4;simp only [aG] at g4;refine ⟨fun t T hT ht => ?_,fun k hk hki hb t T hT ht => ?_⟩
   ·by_cases hnd:T = .dead
    ·subst hnd;rfl
    have hm:(T,t)∈alv D0l:=aeO hT hnd;have:=(List.all_eq_true.1 g4.1) (T,t) hm;simp only [Bool.or_eq_true,beq_iff_eq] at this;exact TT.beq_eq (this.resolve_left ht)
   ·have:=(List.all_eq_true.1 g4.2) k (List.mem_range.2 hk);simp only [hb,Bool.or_false,Bool.or_eq_true,beq_iff_eq] at this;have:=(List.all_eq_true.1 (this.resolve_left hki)) (t,T) hT;simp only [Bool.or_eq_true,beq_iff_eq] at this;exact TT.beq_eq (this.resolve_left ht)
 ·have:=(List.all_eq_true.1 h6) b (by cases b<;>simp);have:=(List.all_eq_true.1 this) p hp;simp only [Bool.or_eq_true,Bool.not_eq_true'] at this;rcases this with h|h
  ·exact .inl (CX h)
  ·right;intro he;rw [he] at h;simp [TT.isDead] at h
 ·rw [hc] at h7;have h8:=Nat.le_of_ble_eq_true h7;have m1:k∈(List.range rs.length).filter fun k=>(oG rs k).contains c:=List.mem_filter.2 ⟨List.mem_range.2 hk,by simpa using hck⟩
  have m2:k'∈(List.range rs.length).filter fun k=>(oG rs k).contains c:=List.mem_filter.2 ⟨List.mem_range.2 hk',by simpa using hck'⟩
  generalize (List.range rs.length).filter (fun k=>(oG rs k).contains c)=l at h8 m1 m2;match l,h8,m1,m2 with
  | [x],_,m1,m2=>
   rw [List.mem_singleton] at m1 m2;rw [m1,m2]
end
end Go.Fw
