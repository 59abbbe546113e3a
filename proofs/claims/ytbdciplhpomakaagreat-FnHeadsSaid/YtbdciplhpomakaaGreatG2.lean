/- A way of showing what a function computes: the blocks of the heap are owned by the places that hold them; this is a part of it. No conditions. -/
import Derived.Test.YtbdciplhpomakaaGreatG1
import Derived.Orders
import Derived.OrdersHeld
import Derived.Laws.StructEq
import Derived.Laws.BytesString
set_option linter.unusedVariables false
set_option linter.unusedSimpArgs false
set_option linter.unusedSectionVars false
namespace Go.Fw
def lT (g:Nat->TT) (t:Nat):Nat->TT:=fun u=>if u=t then .dead else (g u).kill [t] [t]
def uo (t r base:Nat) (κ:aL):aL:=fun b=>
 match κ b with
 | some (r',m::q)=>if r'=t then some (r,(base+m)::q) else some (r',m::q)
 | x=>x
theorem Vf {t r base:Nat} {κ:aL} {b:Nat} (h:∀q,κ b≠some (t,q)):uo t r base κ b=κ b:=by
 unfold uo;split
 ·rename_i r' m q hk;rw [if_neg (by rintro rfl;exact h _ hk),hk]
 ·rfl
theorem Xb {t r base:Nat} {κ:aL} {b:Nat} (h:κ b=none):uo t r base κ b=none:=by
 rw [Vf (by rw [h];simp),h]
section
variable {ac:Nat->Nat->Value} {κ0 κ:aL} {w0 w:World} {N:Nat} {tg:Nat->TT} {sv:Nat->AV} {tm:Nat->Value}
theorem alb (h:R ac κ0 w0 κ w N tg sv tm) {t r base:Nat} (htN:t<N):R ac κ0 w0 (uo t r base κ) w N (lT tg t) sv tm:=by
 refine nS (mods:=[t]) (M:=[t]) h ?_ (fun S hS b hb => ?_) (fun b r' q hr hb => ?_) (fun r' hr => ?_) (fun _ _=>rfl) (fun _ _=>rfl) (fun u hu => ?_) (fun u hu => ?_) (fun b hb => ?_) ?_
 ·have:=h.nle;simp only [List.mem_singleton];omega
 ·have hne:∀q,κ b≠some (t,q):=fun q hk=>hS t (by simp) (hb.2 _ _ hk).1
  exact ⟨⟨hb.1,fun r' q hk=>by rw [Vf hne] at hk;exact hb.2 _ _ hk⟩,Same.refl w b⟩
 ·simp only [List.mem_singleton] at hr;exact ⟨Vf (by rw [hb];intro q hk;cases hk;exact hr rfl),Same.refl w b⟩
 ·simp only [List.mem_singleton] at hr;left;simp [lT,hr]
 ·simp only [List.mem_singleton] at hu;subst hu;simp [lT,TR]
 ·have:u≠t:=by omega
  simp only [lT,if_neg this,h.out u hu];rfl
 ·exact Xb (h.col b hb)
 ·refine ⟨h.fr.size,fun b hb h0 => ?_,h.fr.os,h.fr.out,h.fr.tape⟩;have:=h.fr.kept b hb h0;exact ⟨Xb this.1,this.2⟩
end
theorem aip {g tg:Nat->TT} {s sv:Nat->AV} (h:Le g s tg sv) (t:Nat):Le (lT g t) s (lT tg t) sv:=by
 intro u;by_cases hu:u=t
 ·left;simp [lT,hu]
 ·rcases h u with h1|h1
  ·left;simp only [lT,if_neg hu,h1];rfl
  ·right;simp only [lT,if_neg hu,h1.1];exact ⟨trivial,h1.2⟩
def Jw (j j2 base:Nat) (q:List Nat):Option Pl:=
 match q with
 | m::q'=>if base<=m then some (j2,(m-base)::q') else some (j,m::q')
 | []=>some (j,[])
section
variable {P:Program} {ac:Nat->Nat->Value} {κ0 κ:aL} {w0 w:World} {N:Nat} {tg g:Nat->TT} {sv s:Nat->AV} {a:Act}
theorem anq (h:R ac κ0 w0 κ w N tg sv (gm a)) {t r j j2 base:Nat} {ag:Bool} {cs cs':List CT} (ht:tg t = .val ag cs') (hok:xn cs' cs=true) {as:List A} {is:List Nat} (hs:sv t = .v as is) {Sall:List Nat} :
  kZ (dG (uo t r base κ) (some r) (Jw j j2 base) Sall) w j2 (gm a t) as (.tk ag cs):=by
 have h1:=h.tr t;rw [ht] at h1;simp only [TR] at h1;obtain ⟨as',vs,g1,g2,g3,_,g5⟩:=h1;rw [hs] at g1;cases g1;refine ⟨vs,g2,by rw [g3,EG hok],?_⟩;have:=dN (f:=id) (P:=fun _=>False) (κ:=κ) (w:=w) (κ':=dG (uo t r base κ) (some r) (Jw j j2 base) Sall) (w':=w) (p':=(j2,[])) (j':=0) (get':=fun k=>vs.getD k undef) (fun S hS=>hS.elim) (nW (nX hok).2.2) (fun i hi b q hb=>⟨?_,Same.refl w b⟩) (fun i hi=>rfl) (NM hok g5)
 ·rwa [fq] at this
 ·have hb':κ b=some (t,i::q):=by rw [hb];simp
  unfold dG uo;rw [hb'];simp only [if_true,Jw];rw [if_pos (by omega),show base+i-base=i from by omega];simp
theorem anr (h:R ac κ0 w0 κ w N tg sv (gm a)) {r j j2:Nat} {cr cs:List CT} (hr:tg r = .box cr) (hok:Sy cr cs=true) {as:List A} {is:List Nat} (hs:sv r = .v as is) {Sall:List Nat} (hrS:r∉Sall) (hS:∀m,m∈CT.roSs cr->m∈Sall) {x:Value} (hx:x=gm a r) :
  kZ (dG κ (some r) (Jw j j2 cr.length) Sall) w j x as (.mp cs):=by
 have h1:=h.tr r;rw [hr] at h1;simp only [TR] at h1;obtain ⟨as',b,g1,g2,g3,g4,g5,g6,g7⟩:=h1;rw [hs] at g1;cases g1;subst hx;simp only [Sy,aP] at hok;have heq:=CT.beqs_eq hok.1.1.1;have hl:cr.length=cs.length:=by
  have:=congrArg List.length heq;simpa [fE,dU] using this
 refine ⟨b,g2,g3,?_,by rw [<-hl];exact g5,?_⟩
 ·unfold dG;rw [g4];simp [Jw]
 ·have:=dN (f:=fun _=>[]) (P:=fun S=>∀m,m∈S->m∈Sall) (κ:=κ) (w:=w) (κ':=dG κ (some r) (Jw j j2 cr.length) Sall) (w':=w) (p':=(j,[])) (j':=0) (get':=cellD w b) (fun S hS b' hb=>⟨⟨hb.1,fun r' q hq => ?_⟩,Same.refl w b'⟩) (lc hS) (fun i hi b' q hb=>⟨?_,Same.refl w b'⟩) (fun i hi=>rfl) g7
  ·have h2:=dO.2 this;rw [heq] at h2;exact dO.1 h2
  ·exfalso;unfold dG at hq;cases hk:κ b' with
   | none=>simp [hk] at hq
   | some p=>
    obtain ⟨r2,q2⟩:=p;obtain ⟨h3,h4⟩:=hb.2 _ _ hk;have h5:=hS _ h3;have h6:r2≠r:=by rintro rfl;exact hrS h5
    simp [hk,h6,h5,h4] at hq
  ·have hb':κ b'=some (r,i::q):=by rw [hb];simp
   unfold dG;rw [hb'];simp only [if_true,Jw];rw [if_neg (by omega)];simp
end
def aiq:Nat->List PM->List Operand->Option (Nat × Nat)
 | i,.tk _ _::_,.tmp t::_=>some (i,t)
 | i,_::ps,_::xs=>aiq (i+1) ps xs
 | _,_,_=>none
def qZ (P:Program) (g:Nat->TT) (ag':Bool) (cs':List CT) (t j2:Nat):Nat->List PM->List Operand->List TypeId->Option AX
 | _,[],[],[]=>some ⟨[],[],[],none⟩
 | i,pm::ps,x::xs,ty::tys=>match qZ P g ag' cs' t j2 (i+1) ps xs tys with
  | some Y=>match pm with
   | .rd ag cs=>match rdX P g ty i ag cs x with
    | some (X,S)=>some ⟨X.get::Y.gets,X.rd++Y.rd,S++Y.S,Y.sp⟩
    | none=>none
   | .tk ag cs=>match x with
    | .tmp t'=>if t'=t/\i=j2/\ag=ag'/\xn cs' cs=true then some ⟨fK t::Y.gets,t::Y.rd,Y.S,Y.sp⟩ else none
    | _=>none
   | .mp cs=>match Y.sp,ny g (.mp cs) x with
    | none,some (f,rd)=>some ⟨f::Y.gets,rd++Y.rd,Y.S,some (i,.mp cs,x)⟩
    | _,_=>none
   | .mt _ _=>none
  | none=>none
 | _,_,_,_=>none
section
variable {P:Program} {ac:Nat->Nat->Value} {κ0 κ:aL} {w0 w:World} {N:Nat} {tg g:Nat->TT} {sv s:Nat->AV} {a:Act}
theorem Xc (h:R ac κ0 w0 κ w N tg sv (gm a)) (hL:Le g s tg sv) {r0:Option Nat} {gG:List Nat->Option Pl} {Sall:List Nat} (hr0:∀r,r0=some r->r∉Sall) {ag':Bool} {cs':List CT} {t j2:Nat}
  (htk:∀cs as,xn cs' cs=true->fK t s=some as->kZ (dG κ r0 gG Sall) w j2 (gm a t) as (.tk ag' cs)) :
  ∀{i:Nat} {ps:List PM} {xs:List Operand} {tys:List TypeId} {Y:AX} {ass:List (List A)},qZ P g ag' cs' t j2 i ps xs tys=some Y->kC s Y.gets=some ass->(∀r,r∈Y.S->r∈Sall) ->
   (∀j cs x f rd as,Y.sp=some (j,.mp cs,x)->ny g (.mp cs) x=some (f,rd)->f s=some as->kZ (dG κ r0 gG Sall) w j (a.eval x) as (.mp cs)) ->
   xs.length=ps.length/\ass.length=ps.length/\(∀k pm x as,ps[k]?=some pm->(xs.map a.eval)[k]?=some x->ass[k]?=some as->kZ (dG κ r0 gG Sall) w (i+k) x as pm) /\
   (∀j pm x,Y.sp=some (j,pm,x)->i<=j/\ps[j-i]?=some pm/\pm.mut=true/\xs[j-i]?=some x)
 | i,[],[],[],Y,ass,hx,hg,_,_=>by
  simp only [qZ,aK] at hx
  subst hx
  simp only [kC,aK] at hg
  subst hg
  simp
 | i,pm::ps,x::xs,ty::tys,Y,ass,hx,hg,hS,hsp=>by
  simp only [qZ] at hx
  split at hx
  case h_2=>cases hx
  case h_1 Y' hY=>
  have fin:∀{f:(Nat->AV)->Option (List A)} {rd S:List Nat} {sp:Option (Nat × PM × Operand)} {ass':List (List A)} {as:List A},
    (Y'.sp=sp\/Y'.sp=none/\sp=some (i,pm,x)/\pm.mut=true)->kC s Y'.gets=some ass'->ass=as::ass'->(∀r,r∈Y'.S->r∈Sall) ->
    (∀j cs x f rd as,Y'.sp=some (j,.mp cs,x)->ny g (.mp cs) x=some (f,rd)->f s=some as->kZ (dG κ r0 gG Sall) w j (a.eval x) as (.mp cs))->kZ (dG κ r0 gG Sall) w i (a.eval x) as pm->Y.sp=sp ->
    (x::xs).length=(pm::ps).length/\ass.length=(pm::ps).length/\(∀k pm' x' as,(pm::ps)[k]?=some pm'->((x::xs).map a.eval)[k]?=some x'->ass[k]?=some as->kZ (dG κ r0 gG Sall) w (i+k) x' as pm') /\
   (∀j pm' x',Y.sp=some (j,pm',x')->i<=j/\(pm::ps)[j-i]?=some pm'/\pm'.mut=true/\(x::xs)[j-i]?=some x'):=by
   intro f rd S sp ass' as hspc hg' hae hS' hsp' harg hYsp;subst hae;obtain ⟨k1,k2,k3,k4⟩:=Xc h hL hr0 htk hY hg' hS' hsp';refine ⟨by simp [k1],by simp [k2],fun k pm' x' as' h1 h2 h3 => ?_,fun j pm' x' hj => ?_⟩
   ·cases k with
    | zero=>
     simp at h1 h2 h3;subst h1 h2 h3;exact harg
    | succ k=>
     rw [show i+(k+1)=i+1+k from by omega];exact k3 k pm' x' as' (by simpa using h1) (by simpa using h2) (by simpa using h3)
   ·rw [hYsp] at hj;rcases hspc with he|⟨hn,he,hm⟩
    ·obtain ⟨g1,g2,g3,g4⟩:=k4 j pm' x' (he.trans hj);have e1:j-i=(j-(i+1))+1:=by omega
     rw [e1];exact ⟨by omega,by simpa using g2,g3,by simpa using g4⟩
    ·rw [he] at hj;simp only [aK,Prod.mk.injEq] at hj;obtain ⟨rfl,rfl,rfl⟩:=hj;exact ⟨Nat.le_refl _,by simp,hm,by simp⟩
  split at hx
  ·rename_i ag cs
   split at hx
   case h_2=>cases hx
   case h_1 X S hX=>
   cases hx
   simp only [kC] at hg
   split at hg
   case h_2=>cases hg
   case h_1 as ass' has hg'=>
   cases hg
   exact fin (f:=X.get) (rd:=[]) (S:=[]) (.inl rfl) hg' rfl (fun r hr=>hS r (by simp [hr])) (fun j cs x f rd as hj=>hsp j cs x f rd as hj) (aio h hL hX has (fun r hr=>hS r (by simp [hr])) hr0) rfl
  ·rename_i ag cs
   split at hx
   case h_2=>cases hx
   case h_1 t'=>
   split at hx
   case isFalse=>cases hx
   case isTrue hc=>
   obtain ⟨rfl,rfl,rfl,hok⟩:=hc
   cases hx
   simp only [kC] at hg
   split at hg
   case h_2=>cases hg
   case h_1 as ass' has hg'=>
   cases hg
   exact fin (f:=fK t') (rd:=[]) (S:=[]) (.inl rfl) hg' rfl hS (fun j cs x f rd as hj=>hsp j cs x f rd as hj) (htk cs as hok has) rfl
  ·rename_i cs
   split at hx
   case h_2=>cases hx
   case h_1 f rd hspn hsg=>
   cases hx
   simp only [kC] at hg
   split at hg
   case h_2=>cases hg
   case h_1 as ass' has hg'=>
   cases hg
   exact fin (f:=f) (rd:=[]) (S:=[]) (.inr ⟨hspn,rfl,rfl⟩) hg' rfl hS (fun j cs x f rd as hj=>by rw [hspn] at hj;cases hj) (hsp i cs x f rd as rfl hsg has) rfl
  ·cases hx
 | _,[],_::_,_,_,_,hx,_,_,_=>by simp [qZ] at hx
 | _,[],[],_::_,_,_,hx,_,_,_=>by simp [qZ] at hx
 | _,_::_,[],_,_,_,hx,_,_,_=>by simp [qZ] at hx
 | _,_::_,_::_,[],_,_,hx,_,_,_=>by simp [qZ] at hx
end
def afY (sg:aJ) (j:Nat):Bool:=
 match sg.ps[j]? with
 | some pm=>pm.mut
 | none=>false
theorem alc {sg:aJ} {j:Nat} (h:afY sg j=true):∃pm,sg.ps[j]?=some pm/\pm.mut=true:=by
 unfold afY at h;split at h
 ·rename_i pm hpm;exact ⟨pm,hpm,h⟩
 ·cases h
def Qj (P:Program) (sigs:FuncId->Option aJ) (N:Nat) (g:Nat->TT) (o:Oper):Option Stp:=
 match o.dst,o.op with
 | some d,.call c=>match c.callee with
  | .value (.func K)=>match P.funcs[K]?,sigs K with
   | some fn,some sg=>match aiq 0 sg.ps c.args.toList with
    | some (j2,t)=>match g t with
     | .val ag' cs'=>match qZ P (lT g t) ag' cs' t j2 0 sg.ps c.args.toList fn.params.toList with
      | some Y=>match spK N (lT g t) Y.sp with
       | some (.mp r cr cs j)=>
        if d < N ∧ (fn.name == "runtime.NumGoroutine") = false ∧ fn.body.isNone = false ∧ (r ∉ Y.S ++ CT.roSs cr ∧ r ≠ d) ∧ YX sg (Y.S ++ CT.roSs cr) = true ∧ sg.ps.length < FB ∧ t < N ∧ t ≠ d ∧ t ≠ r ∧ afY sg j2 = true then
         some ⟨[(d,dx (Y.S++CT.roSs cr) sg.res),(r,.box (CT.mapSs (fun _=>Y.S++CT.roSs cr) (CT.unpins cs))),(t,.dead)],fun T=>(T.kill [t] [t]).killS r [d,r] [r],Y.rd++[r,t],.call K sg (fun s=>kC s Y.gets) fun res outs s=>(SK.mp r cr cs j).post sg.res res outs s⟩
        else none
       | _=>none
      | none=>none
     | _=>none
    | none=>none
   | _,_=>none
  | _=>none
 | _,_=>none
theorem acy {P:Program} {sigs:FuncId->Option aJ} {N:Nat} {g:Nat->TT} {o:Oper} {S:Stp} (h:Qj P sigs N g o=some S):dh P N o g S:=by
 unfold Qj at h;split at h;case h_2=>cases h
 case h_1 d c hd ho=>
 obtain ⟨callee,args,ats⟩:=c;simp only at h;split at h;case h_2=>cases h
 case h_1 _ K=>
 split at h;case h_2=>cases h
 case h_1 fn sg hf hsg=>
 split at h;case h_2=>cases h
 case h_1 j2 t0 hfind=>
 split at h;case h_2=>cases h
 case h_1 ag' cs' hT0=>
 split at h;case h_2=>cases h
 case h_1 Y hY=>
 split at h;case h_2=>cases h
 case h_1 r cr cs j hk=>
 split at h;case isFalse=>cases h
 case isTrue hc=>
 obtain ⟨hdN,hname,hbody,hr0,hres,hnp,htN,htd0,htr0,hmut2⟩:=hc;cases h;intro ac κ0 κ w0 w tg sv s a v next Q hN hR hL hv hcont;simp only [Eff.rel] at hv;obtain ⟨ass,res,outs,hass,hgood,hpost⟩:=hv;have hex:=W_ (a:=a) (w:=w) ho hf hname hbody;have hsp:=Xa hk;generalize hspe:Y.sp=sp at hsp;cases hsp with
 | @mp _ t _ _ _ hr hok hrN ht=>
  have hR2:=alb (t:=t0) (r:=r) (base:=cr.length) hR htN;have hL2:=aip hL t0;obtain ⟨d1,d2⟩:=hL.at hT0 (by simp);obtain ⟨e1,e2⟩:=hL2.at hr (by simp);have hr0':∀u,some r=some u->u∉Y.S++CT.roSs cr:=fun u hu=>by cases hu;exact hr0.1
  have hok2:=hok;simp only [Sy,aP] at hok2;have heq:=CT.beqs_eq hok2.1.1.1;have hemp:CT.srcss (CT.unpins cs)=[]:=List.isEmpty_iff.1 hok2.1.2;simp only [SK.post] at hpost;split at hpost;case h_2=>cases hpost
  case h_1 oo hoo=>
  cases hpost;have h1:=hR2.tr r;rw [e1] at h1;simp only [TR] at h1;obtain ⟨ra,b,g1,g2,g3,g4,g5,g6,g7⟩:=h1;have hxr:gm a t=gm a r:=by
   rcases ht with rfl|⟨S0,hT⟩
   ·rfl
   ·obtain ⟨t1,t2⟩:=hL2.at hT (by simp);have h1:=hR2.tr t;rw [t1] at h1;simp only [TR] at h1;obtain ⟨is,B,O,u1,u2,_,_,u5⟩:=h1;rw [e1] at u2;simp only [eO,rb,g2,Option.map_some] at u2;cases is with
    | nil=>
     simp only [wk,aK,Prod.mk.injEq] at u2;rw [u5,g2,<-u2.1,<-u2.2]
    | cons=>simp [wk] at u2
  obtain ⟨k1,k2,k3,k4⟩:=Xc (r0:=some r) (gG:=Jw j j2 cr.length) (Sall:=Y.S++CT.roSs cr) hR2 hL2 hr0' (fun cs2 as hok3 has=>by
   obtain ⟨is,hs⟩:=bG has
   exact anq hR d1 hok3 (by rw [d2,hs])) hY hass (fun r hr=>List.mem_append_left _ hr) (fun j' cs2 x f rd as hj hf' hfs=>by
   rw [hspe] at hj
   simp only [aK,Prod.mk.injEq,PM.mp.injEq] at hj
   obtain ⟨rfl,rfl,rfl⟩:=hj
   have hgr:∃is,s r = .v as is:=by
    rcases ht with rfl|⟨S0,hT⟩
    ·simp only [ny,hr,aK,Prod.mk.injEq] at hf'
     obtain ⟨rfl,_⟩:=hf'
     exact bG hfs
    ·simp only [ny,hT,aK,Prod.mk.injEq] at hf'
     obtain ⟨rfl,_⟩:=hf'
     exact bG hfs
   obtain ⟨is,hs⟩:=hgr
   exact anr hR2 e1 hok (by rw [e2,hs]) (hr0' r rfl) (fun m hm=>List.mem_append_right _ hm) hxr)
  obtain ⟨_,hpj,hmj,hxj⟩:=k4 _ _ _ hspe;refine um (d:=d) (gB:=fun q=>some q) hex hgood hR2.col k1 k2 hnp (fun q p _ hp => ?_) (fun k pm x as h1 h2 h3=>by simpa using k3 k pm x as h1 h2 h3) fun vv κ' w' hcr hrs houts => ?_
  ·have hpj':∃pm,sg.ps[j]?=some pm/\pm.mut=true:=⟨_,by simpa using hpj,hmj⟩
   unfold Jw at hp;split at hp
   ·split at hp
    ·cases hp;exact alc hmut2
    ·cases hp;exact hpj'
   ·cases hp;exact hpj'
  ·have htd:r≠d:=hr0.2;have hjlt:j<sg.ps.length:=by have:=(aS hpj).1;omega
   have hout:=houts j (.mp cs) (gm a t) oo (by simpa using hpj) (by
    rw [List.getElem?_map];simp only [Nat.sub_zero] at hxj;rw [hxj];rfl) hoo
   obtain ⟨b',o1,o2,o3,o4,o5⟩:=hout;have hko:dV (uo t0 r cr.length κ) (dG (uo t0 r cr.length κ) (some r) (Jw j j2 cr.length) (Y.S++CT.roSs cr)) κ' sg.ps.length d w.heap.size (some r) (fun q=>some q) b'=some (r,[]):=by
    unfold dV;rw [o3];simp only;rw [if_neg (by omega),if_neg (by omega)]
   have hroot:TR ac (dV (uo t0 r cr.length κ) (dG (uo t0 r cr.length κ) (some r) (Jw j j2 cr.length) (Y.S++CT.roSs cr)) κ' sg.ps.length d w.heap.size (some r) (fun q=>some q)) w' (ay (fun u=>(lT tg t0 u).kill [d,r] [r]) [(d,dx (Y.S++CT.roSs cr) sg.res),(r,.box (CT.mapSs (fun _=>Y.S++CT.roSs cr) (CT.unpins cs)))])
     (ay sv [(d,gz res sg.res),(r,.v oo [])]) (upd (gm a) d vv) r (.box (CT.mapSs (fun _=>Y.S++CT.roSs cr) (CT.unpins cs))):=by
    simp only [TR];refine ⟨oo,b',by simp [ay,htd],by rw [upd_ne _ _ _ htd,<-hxr,o1],o2,hko,by rw [dU,fE];exact o4,dR (Cn hok2.2),?_⟩;refine dN (f:=fun _=>Y.S++CT.roSs cr) (P:=fun S=>∀r,r∈S->∃pm,sg.ps[r]?=some pm/\pm.mut=false) (κ:=κ') (w:=w') (κ':=dV (uo t0 r cr.length κ) (dG (uo t0 r cr.length κ) (some r) (Jw j j2 cr.length) (Y.S++CT.roSs cr)) κ' sg.ps.length d w.heap.size (some r) (fun q=>some q)) (w':=w') (p':=(r,[])) (j':=0) (get':=cellD w' b') (fun S hS b hb=>⟨hcr.res_ro hS hb,Same.refl w' b⟩) (xJ.2 (by rw [hemp];simp)) (fun i hi b2 q hb=>⟨?_,Same.refl w' b2⟩) (fun i hi=>rfl) (dO.2 o5)
    ·unfold dV;rw [hb];simp only;rw [if_neg (by omega),if_neg (by omega)]
   have hR':=EH hR2 hcr hdN (fun u hu=>by cases hu;exact ⟨hrN,htd⟩) (v:=vv) (tg':=ay (fun u=>(lT tg t0 u).kill [d,r] [r]) [(d,dx (Y.S++CT.roSs cr) sg.res),(r,.box (CT.mapSs (fun _=>Y.S++CT.roSs cr) (CT.unpins cs)))]) (sv':=ay sv [(d,gz res sg.res),(r,.v oo [])])
    (fun u hu hne=>by
     have hrt:u≠r:=fun he=>hne (by rw [he])
     simp only [ay,if_neg hu,if_neg hrt];rfl) (fun u hu hne=>by
     have hrt:u≠r:=fun he=>hne (by rw [he])
     simp only [ay,if_neg hu,if_neg hrt]) (by
     have:=hcr.tr (ac:=ac) hres hrs (ay (fun u=>(lT tg t0 u).kill [d,r] [r]) [(d,dx (Y.S++CT.roSs cr) sg.res),(r,.box (CT.mapSs (fun _=>Y.S++CT.roSs cr) (CT.unpins cs)))]) (ay sv [(d,gz res sg.res),(r,.v oo [])]) (upd (gm a) d vv) (by simp [ay]) (by simp [upd])
     simpa [ay] using this) (fun u hu=>by
     cases hu
     have:ay (fun u=>(lT tg t0 u).kill [d,r] [r]) [(d,dx (Y.S++CT.roSs cr) sg.res),(r,.box (CT.mapSs (fun _=>Y.S++CT.roSs cr) (CT.unpins cs)))] r = .box (CT.mapSs (fun _=>Y.S++CT.roSs cr) (CT.unpins cs)):=by simp [ay,htd]
     rw [this];exact hroot)
   have hR3:=YW (tg2:=ay (fun u=>(lT tg t0 u).killS r [d,r] [r]) [(d,dx (Y.S++CT.roSs cr) sg.res),(r,.box (CT.mapSs (fun _=>Y.S++CT.roSs cr) (CT.unpins cs)))]) hR2 hR' (r:=r) (mods:=[d,r]) (M:=[r]) (X:=[d,r]) (by simp) (fun u hu=>by
    simp only [List.mem_cons,List.not_mem_nil,or_false,not_or] at hu
    simp [ay,upd,hu.1,hu.2]) (fun u hu=>by
    simp only [List.mem_cons,List.not_mem_nil,or_false] at hu
    rcases hu with rfl|rfl
    ·simp [ay]
    ·simp [ay,htd]) (fun hb=>⟨⟨_,by simp [ay,htd];rfl⟩,by simp [upd,htd]⟩)
   refine hcont vv w' _ _ _ (by rw [hd,lu (a:=a) (by rw [hN];exact hdN)];exact hR3) (fun u => ?_) (fun u=>by simp [ay]);simp only [ay];by_cases h1:u=d
   ·simp [h1]
   ·by_cases h2:u=r
    ·simp [h2,htd]
    ·by_cases h3:u=t0
     ·simp [h1,h2,h3,htd0,htr0,lT,TT.killS,TT.kill]
     ·simp [h1,h2,h3,lT]
end Go.Fw
namespace Go.Fw
structure bq where
 n:Nat
 up:Nat->List (Nat × TT)
 dst:Nat->Option Nat
 bef:Nat->Nat->Bool
 D0:Nat->TT
 s0:Nat->AV
 wn:Nat->Bool
 vv:Nat->List AV
 np:Nat->Bool
 px:Nat->Value
namespace bq
variable (r:bq)
def Wd (k t:Nat):Prop:=t∈(r.up k).map (·.1)\/r.dst k=some t
def sS (k:Nat) (f:Nat->AV):Nat->AV:=if r.wn k then ay f (((r.up k).map (·.1)).zip (r.vv k)) else f
def dS (k:Nat) (f:Nat->TT):Nat->TT:=if r.wn k then ay f (r.up k) else fun t=>if r.dst k=some t then .dead else f t
def sL (L:Nat->Bool):Nat->Nat->AV
 | 0=>r.s0
 | k+1=>if L k then r.sS k (sL L k) else sL L k
def dL (L:Nat->Bool):Nat->Nat->TT
 | 0=>r.D0
 | k+1=>if L k then r.dS k (dL L k) else dL L k
theorem upds_out {α:Type} {f:Nat->α} {l:List (Nat × α)} {t:Nat} (h:t∉l.map (·.1)):ay f l t=f t:=by
 induction l with
 | nil=>rfl
 | cons p l ih=>
  simp only [List.map_cons,List.mem_cons,not_or] at h;simp only [ay,if_neg h.1,ih h.2]
theorem upds_in {α:Type} {f g:Nat->α} {l:List (Nat × α)} {t:Nat} (h:t∈l.map (·.1)):ay f l t=ay g l t:=by
 induction l with
 | nil=>simp at h
 | cons p l ih=>
  simp only [List.map_cons,List.mem_cons] at h;simp only [ay];split
  ·rfl
  ·rename_i hne;exact ih (h.resolve_left hne)
theorem zip_mem {α β:Type} {l:List α} {v:List β} {t:α} (h:t∈(l.zip v).map (·.1)):t∈l:=by
 obtain ⟨p,hp,rfl⟩:=List.mem_map.1 h;obtain ⟨a,b⟩:=p;exact (List.of_mem_zip hp).1
variable {r}
theorem sS_out {k t:Nat} {f:Nat->AV} (h:¬r.Wd k t):r.sS k f t=f t:=by
 simp only [Wd,not_or] at h;unfold sS;split
 ·exact upds_out fun hm=>h.1 (zip_mem hm)
 ·rfl
theorem dS_out {k t:Nat} {f:Nat->TT} (h:¬r.Wd k t):r.dS k f t=f t:=by
 simp only [Wd,not_or] at h;unfold dS;split
 ·exact upds_out h.1
 ·simp only [if_neg h.2]
theorem yI {k t:Nat} {f g:Nat->AV} (h:f t=g t):r.sS k f t=r.sS k g t:=by
 unfold sS;split
 ·by_cases hm:t∈(((r.up k).map (·.1)).zip (r.vv k)).map (·.1)
  ·exact upds_in hm
  ·rw [upds_out hm,upds_out hm,h]
 ·exact h
theorem yJ {k t:Nat} {f g:Nat->TT} (h:f t=g t):r.dS k f t=r.dS k g t:=by
 unfold dS;split
 ·by_cases hm:t∈(r.up k).map (·.1)
  ·exact upds_in hm
  ·rw [upds_out hm,upds_out hm,h]
 ·simp only [h]
def lt (i:Nat):Nat->Bool:=fun j=>decide (j<i)
def ins (L:Nat->Bool) (i:Nat):Nat->Bool:=fun j=>j == i || L j
theorem s_loc {L:Nat->Bool} {i t:Nat} (hb:∀j k,r.bef j k=true->j<k) (hdown:∀j k,r.bef j k=true->L k=true->L j=true) (hi:L i=false) (hr:∀j,r.bef j i=true->L j=true)
  (ho:∀j,j<r.n->r.Wd j t->r.bef j i=true\/r.bef i j=true\/j=i):∀k,k<=r.n->r.sL L k t=r.sL (lt i) (min k i) t:=by
 intro k;induction k with
 | zero=>intro _;simp [sL]
 | succ k ih=>
  intro hk;have ih:=ih (by omega);simp only [sL];by_cases hw:r.Wd k t
  ·rcases ho k (by omega) hw with h1|h1|h1
   ·have hlt:=hb k i h1;rw [hr k h1,if_pos rfl,show min (k+1) i=min k i+1 from by omega,show min k i=k from by omega];simp only [sL,lt,hlt,decide_true,if_true];rw [show min k i=k from by omega] at ih;exact yI ih
   ·have hlt:=hb i k h1;have hL:L k=false:=by
     cases hL:L k with
     | false=>rfl
     | true=>rw [hdown i k h1 hL] at hi;cases hi
    rw [hL,if_neg (by simp),ih];congr 1;omega
   ·subst h1;rw [hi,if_neg (by simp),ih];congr 1;omega
  ·have h1:(if L k then r.sS k (r.sL L k) else r.sL L k) t=r.sL L k t:=by
    split
    ·exact sS_out hw
    ·rfl
   rw [h1,ih];by_cases hki:k<i
   ·rw [show min (k+1) i=k+1 from by omega,show min k i=k from by omega];simp only [sL];split
    ·rw [sS_out hw]
    ·rfl
   ·congr 1;omega
theorem d_loc {L:Nat->Bool} {i t:Nat} (hb:∀j k,r.bef j k=true->j<k) (hdown:∀j k,r.bef j k=true->L k=true->L j=true) (hi:L i=false) (hr:∀j,r.bef j i=true->L j=true)
  (ho:∀j,j<r.n->r.Wd j t->r.bef j i=true\/r.bef i j=true\/j=i):∀k,k<=r.n->r.dL L k t=r.dL (lt i) (min k i) t:=by
 intro k;induction k with
 | zero=>intro _;simp [dL]
 | succ k ih=>
  intro hk;have ih:=ih (by omega);simp only [dL];by_cases hw:r.Wd k t
  ·rcases ho k (by omega) hw with h1|h1|h1
   ·have hlt:=hb k i h1;rw [hr k h1,if_pos rfl,show min (k+1) i=min k i+1 from by omega,show min k i=k from by omega];simp only [dL,lt,hlt,decide_true,if_true];rw [show min k i=k from by omega] at ih;exact yJ ih
   ·have hlt:=hb i k h1;have hL:L k=false:=by
     cases hL:L k with
     | false=>rfl
     | true=>rw [hdown i k h1 hL] at hi;cases hi
    rw [hL,if_neg (by simp),ih];congr 1;omega
   ·subst h1;rw [hi,if_neg (by simp),ih];congr 1;omega
  ·have h1:(if L k then r.dS k (r.dL L k) else r.dL L k) t=r.dL L k t:=by
    split
    ·exact dS_out hw
    ·rfl
   rw [h1,ih];by_cases hki:k<i
   ·rw [show min (k+1) i=k+1 from by omega,show min k i=k from by omega];simp only [dL];split
    ·rw [dS_out hw]
    ·rfl
   ·congr 1;omega
theorem s_ins {L:Nat->Bool} {i:Nat} (hi:L i=false) (hdis:∀j t,i<j->j<r.n->L j=true->¬(r.Wd i t/\r.Wd j t)) :
  ∀k,k<=r.n->∀t,r.sL (ins L i) k t=if i<k then r.sS i (r.sL L k) t else r.sL L k t:=by
 intro k;induction k with
 | zero=>intro _ t;simp [sL]
 | succ k ih=>
  intro hk t;have ih:=ih (by omega);simp only [sL];by_cases hki:k=i
  ·subst hki;rw [show ins L k k=true from by simp [ins],if_pos rfl,hi,if_pos (by omega),if_neg (by simp)];refine yI ?_;rw [ih t,if_neg (by omega)]
  ·have hins:ins L i k=L k:=by simp [ins,hki]
   rw [hins];by_cases hL:L k=true
   ·rw [if_pos hL,if_pos hL];by_cases hlt:i<k
    ·rw [if_pos (by omega)];by_cases hw:r.Wd k t
     ·have hn:¬r.Wd i t:=fun hw'=>hdis k t hlt (by omega) hL ⟨hw',hw⟩
      rw [sS_out hn];refine yI ?_;rw [ih t,if_pos hlt,sS_out hn]
     ·rw [sS_out hw,ih t,if_pos hlt];refine yI ?_;rw [sS_out hw]
    ·rw [if_neg (by omega)];refine yI ?_;rw [ih t,if_neg hlt]
   ·rw [if_neg hL,if_neg hL];rw [ih t];by_cases hlt:i<k
    ·rw [if_pos hlt,if_pos (by omega)]
    ·rw [if_neg hlt,if_neg (by omega)]
theorem d_ins {L:Nat->Bool} {i:Nat} (hi:L i=false) (hdis:∀j t,i<j->j<r.n->L j=true->¬(r.Wd i t/\r.Wd j t)) :
  ∀k,k<=r.n->∀t,r.dL (ins L i) k t=if i<k then r.dS i (r.dL L k) t else r.dL L k t:=by
 intro k;induction k with
 | zero=>intro _ t;simp [dL]
 | succ k ih=>
  intro hk t;have ih:=ih (by omega);simp only [dL];by_cases hki:k=i
  ·subst hki;rw [show ins L k k=true from by simp [ins],if_pos rfl,hi,if_pos (by omega),if_neg (by simp)];refine yJ ?_;rw [ih t,if_neg (by omega)]
  ·have hins:ins L i k=L k:=by simp [ins,hki]
   rw [hins];by_cases hL:L k=true
   ·rw [if_pos hL,if_pos hL];by_cases hlt:i<k
    ·rw [if_pos (by omega)];by_cases hw:r.Wd k t
     ·have hn:¬r.Wd i t:=fun hw'=>hdis k t hlt (by omega) hL ⟨hw',hw⟩
      rw [dS_out hn];refine yJ ?_;rw [ih t,if_pos hlt,dS_out hn]
     ·rw [dS_out hw,ih t,if_pos hlt];refine yJ ?_;rw [dS_out hw]
    ·rw [if_neg (by omega)];refine yJ ?_;rw [ih t,if_neg hlt]
   ·rw [if_neg hL,if_neg hL];rw [ih t];by_cases hlt:i<k
    ·rw [if_pos hlt,if_pos (by omega)]
    ·rw [if_neg hlt,if_neg (by omega)]
end bq
end Go.Fw
namespace Go.Fw
structure NN (P:Program) (N:Nat) (ops:Array Oper) (St:Nat->Stp) (r:bq):Prop where
 n:r.n=ops.size
 up:∀i,i<r.n->∃ks:List Nat,r.up i=(St i).up++ks.map fun t=>(t,.dead)
 dst:∀i o,ops[i]?=some o->r.dst i=o.dst
 lt:∀j k,r.bef j k=true->j<k
 disj:∀i j t,i<j->j<r.n->r.bef i j=false->¬(r.Wd i t/\r.Wd j t)
 guard:∀i o j b,ops[i]?=some o->o.guard=some (j,b)->r.bef j i=true/\∃t,r.dst j=some t/\(∀k,k<r.n->r.Wd k t->k=j)/\(r.wn j=true->r.dL (bq.lt i) i t = .val false [.d])
 wn:∀i o,ops[i]?=some o->r.wn i=match o.guard with
  | none=>true
  | some (j,b)=>r.wn j&&(match r.dst j with
   | some t=>(match r.sL (bq.lt i) i t with
    | .v [.v (.bool c)] _=>c == b
    | _=>false)
   | none=>false)
 kill:∀i,i<r.n->r.wn i=true->∀t,t∉(r.up i).map (·.1)->(St i).kl (r.D0 t)=r.D0 t/\∀j,j<r.n->j≠i->r.bef i j=false->∀T,(t,T)∈r.up j->(St i).kl T=T
 killu:∀i,i<r.n->r.wn i=false->∀d,r.dst i=some d->∀t,t≠d->(r.D0 t).kill [d] []=r.D0 t/\∀j,j<r.n->j≠i->r.bef i j=false->∀T,(t,T)∈r.up j->T.kill [d] []=T
 step:∀i o,ops[i]?=some o->r.wn i=true->∃g,dh P N o g (St i)/\(∀t,g t = .dead\/(g t=r.dL (bq.lt i) i t/\∀j,j<r.n->r.Wd j t->r.bef j i=true\/r.bef i j=true\/j=i)) /\
  ∀t,t∈(St i).up.map (·.1)->t∉(((St i).up.map (·.1)).zip (r.vv i)).map (·.1)->ay (fun _=>.dead) (St i).up t = .dead\/g t≠.dead
 rel:∀i,i<r.n->r.wn i=true->(St i).eff.rel P (r.sL (bq.lt i) i) (r.vv i)/\(r.vv i).length<=(St i).up.length
 unw:∀i,i<r.n->∀d,r.dst i=some d->d<N/\r.np d=false
structure RInv (ac:Nat->Nat->Value) (κ0:aL) (w0:World) (N:Nat) (r:bq) (L:Nat->Bool) (a:Act) (w:World):Prop where
 st:∃κ tg sv,R ac κ0 w0 κ w N tg sv (gm a)/\Le (r.dL L r.n) (r.sL L r.n) tg sv
 size:a.tmps.size=N
 defers:a.defers=[]
 par:∀i,r.np i=true->gm a i=r.px i
 und:∀j t,j<r.n->L j=true->r.wn j=false->r.dst j=some t->(∀k,k<r.n->r.Wd k t->k=j)->gm a t=undef
theorem EJ {α β:Type}:∀{l m:List α} {v:List β},v.length<=l.length->(l++m).zip v=l.zip v
 | [],m,[],_=>by cases m<;>rfl
 | [],_,_::_,h=>by simp at h
 | a::l,m,[],_=>by simp
 | a::l,m,b::v,h=>by simp only [List.cons_append,List.zip_cons_cons];rw [EJ (by simpa using h)]
theorem yK {α:Type} (f:Nat->α):∀(l m:List (Nat × α)) (t:Nat),ay f (l++m) t=ay (ay f m) l t
 | [],m,t=>rfl
 | (d,x)::l,m,t=>by simp only [List.cons_append,ay];rw [yK f l m t]
theorem adX (f:Nat->TT):∀(ks:List Nat) (t:Nat),t∈ks->ay f (ks.map fun t=>(t,TT.dead)) t = .dead
 | k::ks,t,h=>by
  simp only [List.map_cons,ay];split
  ·rfl
  ·rename_i hne;exact adX f ks t ((List.mem_cons.1 h).resolve_left hne)
 | [],_,h=>by simp at h
theorem Zx {r:bq} {L:Nat->Bool} {t:Nat}:∀k,k<=r.n->r.dL L k t = .dead\/r.dL L k t=r.D0 t\/∃j,j<r.n/\L j=true/\(t,r.dL L k t)∈r.up j:=by
 intro k;induction k with
 | zero=>intro _;right;left;rfl
 | succ k ih=>
  intro hk;simp only [bq.dL];split
  ·rename_i hL;unfold bq.dS;split
   ·by_cases hm:t∈(r.up k).map (·.1)
    ·right;right;refine ⟨k,by omega,hL,?_⟩;generalize r.dL L k=f;generalize r.up k=l at hm;induction l with
     | nil=>simp at hm
     | cons p l ihl=>
      simp only [ay];by_cases hp:t=p.1
      ·rw [if_pos hp,hp];exact List.mem_cons_self
      ·rw [if_neg hp];simp only [List.map_cons,List.mem_cons] at hm;exact List.mem_cons_of_mem _ (ihl (hm.resolve_left hp))
    ·rw [bq.upds_out hm];exact ih (by omega)
   ·simp only;split
    ·exact .inl rfl
    ·exact ih (by omega)
  ·exact ih (by omega)
theorem Zy (a:Act) (d:Option Tmp) (x:Value):(a.put d x).tmps.size=a.tmps.size:=by cases d<;>simp [Act.put]
theorem put_defers (a:Act) (d:Option Tmp) (x:Value):(a.put d x).defers=a.defers:=by cases d<;>rfl
section
variable {P:Program} {ac:Nat->Nat->Value} {κ0:aL} {w0:World} {N:Nat} {ops:Array Oper} {St:Nat->Stp} {r:bq} {Q:Exit->Act->World->Prop}
theorem Xd {a:Act} {d:Option Tmp} {x:Value} {t:Nat} (h:d≠some t):gm (a.put d x) t=gm a t:=by
 cases d with
 | none=>rfl
 | some d=>
  have:t≠d:=fun he=>h (by rw [he])
  simp [gm,Act.put,Array.getD_eq_getD_getElem?,Array.getElem?_setIfInBounds,Ne.symm this]
theorem air (hok:NN P N ops St r) {L:Nat->Bool} {a:Act} {w:World} (hinv:RInv ac κ0 w0 N r L a w) {i:Nat} {o:Oper} (ho:ops[i]?=some o) (hi:L i=false)
  (hdown:∀j k,r.bef j k=true->L k=true->L j=true) (hr:∀j,r.bef j i=true->L j=true):Region.wanted o (yielded ops a.tmps)=r.wn i:=by
 have hin:i<r.n:=by rw [hok.n];exact (Array.getElem?_eq_some_iff.1 ho).1
 rw [hok.wn i o ho];unfold Region.wanted;cases hg:o.guard with
 | none=>rfl
 | some p=>
  obtain ⟨j,b⟩:=p;obtain ⟨hb,t,hdj,honly,hT⟩:=hok.guard i o j b ho hg;have hjn:j<r.n:=by have:=hok.lt j i hb;omega
  have hjo:∃oj,ops[j]?=some oj/\oj.dst=some t:=by
   have h1:j<ops.size:=by rw [<-hok.n];exact hjn
   exact ⟨ops[j],by simp [h1],by rw [<-hok.dst j _ (by simp [h1])];exact hdj⟩
  obtain ⟨oj,hoj,hdj'⟩:=hjo;have hyl:yielded ops a.tmps j=match a.tmps[t]? with
   | some (.bool b)=>some b
   | _=>none:=by
   unfold yielded;simp only [hoj,hdj',ae];cases a.tmps[t]? with
   | none=>rfl
   | some x=>cases x<;>rfl
  simp only [hdj,hyl];cases hw:r.wn j with
  | false=>
   have hu:=hinv.und j t hjn (hr j hb) hw hdj honly;simp only [gm,Array.getD_eq_getD_getElem?] at hu;cases ha:a.tmps[t]? with
   | none=>simp
   | some x=>rw [ha] at hu;simp at hu;subst hu;simp [undef]
  | true=>
   obtain ⟨κ,tg,sv,hR,hLe⟩:=hinv.st;have hord:∀k,k<r.n->r.Wd k t->r.bef k i=true\/r.bef i k=true\/k=i:=fun k hk hw'=>by rw [honly k hk hw'];exact .inl hb
   have hd1:=bq.d_loc (r:=r) hok.lt hdown hi hr hord r.n (Nat.le_refl _);have hs1:=bq.s_loc (r:=r) hok.lt hdown hi hr hord r.n (Nat.le_refl _);rw [show min r.n i=i from by omega] at hd1 hs1;rw [hT hw] at hd1;obtain ⟨e1,e2⟩:=hLe.at hd1 (by simp);have h1:=hR.tr t;rw [e1] at h1;simp only [TR] at h1;obtain ⟨as,vs,g1,g2,g3,_,g5⟩:=h1;rw [e2,hs1] at g1;have:=iN g2;subst this;cases as with
   | nil=>simp [ax] at g5
   | cons x as=>
    cases as with
    | cons=>simp [ax] at g5
    | nil=>
     simp only [ax] at g5;cases x with
     | s xs=>simp [RC] at g5
     | v y=>
      simp only [RC,List.getD_cons_zero] at g5;obtain ⟨⟨h2,h3⟩,_⟩:=g5;have hlt:t<a.tmps.size:=by
       rw [hinv.size];apply Nat.lt_of_not_le;intro hle;have:=hR.out t hle;rw [e1] at this;cases this
      have hat:a.tmps[t]?=some y:=by
       simp only [gm,Array.getD_eq_getD_getElem?] at h2;rw [Array.getElem?_eq_getElem hlt] at h2 ⊢;simpa using h2
      rw [hat,g1];cases y<;>simp [sc] at h3 ⊢
theorem Zz (hok:NN P N ops St r) {L:Nat->Bool} {a:Act} {w:World} (hinv:RInv ac κ0 w0 N r L a w) {i:Nat} (hin:i<r.n) (hi:L i=false)
  (hdown:∀j k,r.bef j k=true->L k=true->L j=true) (hr:∀j,r.bef j i=true->L j=true) (K:Act->World->Prop) (hK:∀a' w',RInv ac κ0 w0 N r (bq.ins L i) a' w'->K a' w'):wpOp P ops Q i K a w:=by
 have h1:i<ops.size:=by rw [<-hok.n];exact hin
 have ho:ops[i]?=some ops[i]:=by simp [h1]
 unfold wpOp;rw [ho];simp only;rw [air hok hinv ho hi hdown hr];have hdis:∀j t,i<j->j<r.n->L j=true->¬(r.Wd i t/\r.Wd j t):=fun j t hij hj hL=>by
  refine hok.disj i j t hij hj ?_;cases hb:r.bef i j with
  | false=>rfl
  | true=>rw [hdown i j hb hL] at hi;cases hi
 have hsi:=fun t=>bq.s_ins (r:=r) hi hdis r.n (Nat.le_refl _) t
 have hdi:=fun t=>bq.d_ins (r:=r) hi hdis r.n (Nat.le_refl _) t
 simp only [if_pos hin] at hsi hdi;obtain ⟨κ,tg,sv,hR,hLe⟩:=hinv.st;have hdst:=hok.dst i _ ho;have hpar:∀x j,r.np j=true->gm (a.put ops[i].dst x) j=r.px j:=by
  intro x j hj;rw [Xd (fun he=>by
   have:=(hok.unw i hin j (by rw [hdst,he])).2
   rw [this] at hj;cases hj)]
  exact hinv.par j hj
 -- what was not run stays so
 have hund:∀x j t,j<r.n->bq.ins L i j=true->r.wn j=false->r.dst j=some t->(∀k,k<r.n->r.Wd k t->k=j)->(j=i->x=undef)->gm (a.put ops[i].dst x) t=undef:=by
  intro x j t hj hLj hwj hd honly hx;by_cases hji:j=i
  ·subst hji;rw [hx rfl,<-hdst,hd,lu (by rw [hinv.size];exact (hok.unw j hj t hd).1),bB]
  ·have hne:ops[i].dst≠some t:=fun he=>hji (honly i hin (.inr (by rw [hdst,he]))).symm
   rw [Xd hne];refine hinv.und j t hj ?_ hwj hd honly;have:(j == i)=false:=by simpa using hji
   simpa [bq.ins,this] using hLj
 cases hw:r.wn i with
 | false=>
  simp only [Bool.false_eq_true,if_false];refine hK _ _ ⟨?_,by rw [Zy];exact hinv.size,by rw [put_defers];exact hinv.defers,hpar undef,fun j t hj hLj hwj hd honly=>hund undef j t hj hLj hwj hd honly fun _=>rfl⟩;cases hd:r.dst i with
  | none=>
   rw [hd] at hdst;refine ⟨κ,tg,sv,by rw [<-hdst,FM];exact hR,fun t => ?_⟩;rw [hdi t,hsi t];simp only [bq.dS,bq.sS,hw,hd,Bool.false_eq_true,if_false];simpa using hLe t
  | some d=>
   rw [hd] at hdst;have hdN:=(hok.unw i hin d hd).1;refine ⟨_,_,_,by rw [<-hdst,lu (by rw [hinv.size];exact hdN)];exact aif hR hdN (av:=.n) (x:=undef) (Grows.refl w),fun t => ?_⟩;rw [hdi t,hsi t];simp only [bq.dS,bq.sS,hw,hd,Bool.false_eq_true,if_false,g_,upd];by_cases htd:t=d
   ·subst htd;exact .inl (by simp)
   ·rw [if_neg htd,if_neg htd,if_neg (fun he=>htd (Option.some.inj he).symm)];have hku:=hok.killu i hin hw d hd t htd;have hcase:=Zx (r:=r) (L:=L) (t:=t) r.n (Nat.le_refl _);rcases hLe t with h2|⟨h2,h3⟩
    ·exact .inl h2
    ·rcases hcase with h4|h4|⟨j,hj,hLj,h4⟩
     ·exact .inl h4
     ·right;refine ⟨?_,h3⟩;rw [<-h2,h4,hku.1]
     ·right;refine ⟨?_,h3⟩;have hji:j≠i:=fun he=>by rw [he,hi] at hLj;cases hLj
      have hbf:r.bef i j=false:=by
       cases hb:r.bef i j with
       | false=>rfl
       | true=>rw [hdown i j hb hLj] at hi;cases hi
      rw [<-h2,hku.2 j hj hji hbf _ h4]
 | true=>
  simp only [if_true];left;obtain ⟨g,hstp,hg,hto⟩:=hok.step i _ ho hw;obtain ⟨hrel,hvl⟩:=hok.rel i hin hw;have hord:=fun t ht=>bq.d_loc (r:=r) (t:=t) hok.lt hdown hi hr ht r.n (Nat.le_refl _)
  have hsrd:=fun t ht=>bq.s_loc (r:=r) (t:=t) hok.lt hdown hi hr ht r.n (Nat.le_refl _)
  rw [show min r.n i=i from by omega] at hord hsrd;have hLg:Le g (r.sL (bq.lt i) i) tg sv:=fun t=>by
   rcases hg t with h2|⟨h2,h3⟩
   ·exact .inl h2
   ·rcases hLe t with h4|⟨h4,h5⟩
    ·left;rw [h2,<-hord t h3,h4]
    ·right;exact ⟨by rw [h2,<-hord t h3,h4],by rw [<-hsrd t h3,h5]⟩
  refine hstp ac κ0 κ w0 w tg sv _ a (r.vv i) _ Q hinv.size hR hLg hrel fun x w' κ' tg' sv' hR' htg hsv => ?_
  refine hK _ _ ⟨⟨κ',tg',sv',hR',fun t => ?_⟩,by rw [Zy];exact hinv.size,by rw [put_defers];exact hinv.defers,hpar x,fun j t hj hLj hwj hd honly=>hund x j t hj hLj hwj hd honly fun he=>by rw [he,hw] at hwj;cases hwj⟩;rw [hdi t,hsi t];simp only [bq.dS,bq.sS,hw,if_true];obtain ⟨ks,hks⟩:=hok.up i hin;rw [htg t,hsv t];have hzip:((r.up i).map (·.1)).zip (r.vv i)=((St i).up.map (·.1)).zip (r.vv i):=by
   rw [hks,List.map_append];exact EJ (by simpa using hvl)
  rw [hzip];by_cases hm:t∈(r.up i).map (·.1)
  ·rw [hks] at hm ⊢;rw [yK];by_cases hm1:t∈(St i).up.map (·.1)
   ·have ht:ay (ay (r.dL L r.n) (ks.map fun t=>(t,TT.dead))) (St i).up t=ay (fun t=>(St i).kl (tg t)) (St i).up t:=bq.upds_in hm1;by_cases hz:t∈(((St i).up.map (·.1)).zip (r.vv i)).map (·.1)
    ·exact .inr ⟨ht,bq.upds_in hz⟩
    ·rcases hto t hm1 hz with h2|h2
     ·left;rw [<-h2];exact bq.upds_in hm1
     ·right;refine ⟨ht,?_⟩;rw [bq.upds_out hz,bq.upds_out hz];rcases hg t with h3|⟨h3,h4⟩
      ·exact absurd h3 h2
      ·rcases hLe t with h5|h5
       ·exact absurd (by rw [h3,<-hord t h4,h5]) h2
       ·exact h5.2
   ·left;rw [bq.upds_out hm1];refine adX _ ks t ?_;rw [List.map_append,List.mem_append] at hm;simpa using hm.resolve_left hm1
  ·have hm':t∉(St i).up.map (·.1):=fun h=>hm (by rw [hks,List.map_append,List.mem_append];exact .inl h)
   rw [bq.upds_out hm,bq.upds_out hm',bq.upds_out (fun h=>hm' (bq.zip_mem h)),bq.upds_out (fun h=>hm' (bq.zip_mem h))];have hku:=hok.kill i hin hw t hm;have hcase:=Zx (r:=r) (L:=L) (t:=t) r.n (Nat.le_refl _);rcases hLe t with h2|⟨h2,h3⟩
   ·exact .inl h2
   ·rcases hcase with h4|h4|⟨j,hj,hLj,h4⟩
    ·exact .inl h4
    ·right;refine ⟨?_,h3⟩;rw [<-h2,h4,hku.1]
    ·right;refine ⟨?_,h3⟩;have hji:j≠i:=fun he=>by rw [he,hi] at hLj;cases hLj
     have hbf:r.bef i j=false:=by
      cases hb:r.bef i j with
      | false=>rfl
      | true=>rw [hdown i j hb hLj] at hi;cases hi
     rw [<-h2,hku.2 j hj hji hbf _ h4]
end
end Go.Fw
namespace Go.Fw
theorem ZB (S:List Nat):meets S []=false:=by simp [meets]
theorem ant (T:TT):T.kill [] []=T:=by
 cases T with
 | alias ag cs r sk off S=>
  have:=WJ.mens_nil cs;simp [TT.kill,ZB,this]
 | ptr r sk off S=>simp [TT.kill,ZB]
 | val=>simp [TT.kill,FJ]
 | box=>simp [TT.kill,FJ]
 | tup=>simp [TT.kill,FJ]
 | dead=>simp [TT.kill]
section
variable {P:Program} {ac:Nat->Nat->Value} {κ0 κ:aL} {w0 w:World} {N:Nat} {tg:Nat->TT} {sv:Nat->AV} {tm:Nat->Value}
theorem ais {w w':World} {S:List Nat} {b:Nat} (hw:w'.heap=w.heap) (h:aV κ w S b):aV κ w' S b:=⟨by rw [hw];exact h.1,h.2⟩
theorem aoI (h:R ac κ0 w0 κ w N tg sv tm) {w':World} (hh:w'.heap=w.heap) (ho:w'.os=w.os) (hu:w'.output=w.output) (ht:w'.tape=w.tape):R ac κ0 w0 κ w' N tg sv tm:=by
 have hs:∀b,Same w w' b:=fun b=>⟨fun hb=>by rw [hh];exact hb,fun o x hx=>by
  simp only [World.cell?,World.frozen?,hh] at hx ⊢
  exact ⟨hx,trivial⟩⟩
 refine nS (mods:=[]) (M:=[]) h (by simp) (fun S _ b hb=>⟨ais hh hb,hs b⟩) (fun b r q _ hb=>⟨rfl,hs b⟩) (fun r _=>.inl (ant _).symm) (fun _ _=>rfl) (fun _ _=>rfl) (fun t ht=>by simp at ht) h.out (fun b hb=>h.col b (by rw [<-hh];exact hb)) ?_;exact ⟨by rw [hh];exact h.fr.size,fun b hb h0=>by rw [hh];exact h.fr.kept b hb h0,by rw [ho];exact h.fr.os,by rw [hu];exact h.fr.out,by rw [ht];exact h.fr.tape⟩
end
namespace bq
variable {r:bq}
theorem sL_congr {L L':Nat->Bool} (n:Nat) (h:∀j,j<n->L j=L' j):r.sL L n=r.sL L' n:=by
 induction n with
 | zero=>rfl
 | succ n ih=>simp only [sL];rw [ih fun j hj=>h j (by omega),h n (by omega)]
theorem dL_congr {L L':Nat->Bool} (n:Nat) (h:∀j,j<n->L j=L' j):r.dL L n=r.dL L' n:=by
 induction n with
 | zero=>rfl
 | succ n ih=>simp only [dL];rw [ih fun j hj=>h j (by omega),h n (by omega)]
theorem sL_none (n:Nat) {L:Nat->Bool} (h:∀j,j<n->L j=false):r.sL L n=r.s0:=by
 induction n with
 | zero=>rfl
 | succ n ih=>simp only [sL];rw [h n (by omega),if_neg (by simp)];exact ih fun j hj=>h j (by omega)
theorem dL_none (n:Nat) {L:Nat->Bool} (h:∀j,j<n->L j=false):r.dL L n=r.D0:=by
 induction n with
 | zero=>rfl
 | succ n ih=>simp only [dL];rw [h n (by omega),if_neg (by simp)];exact ih fun j hj=>h j (by omega)
theorem ins_lt (k:Nat):ins (lt k) k=lt (k+1):=by
 funext j;simp only [ins,lt];by_cases h:j=k
 ·subst h;simp
 ·have:(j == k)=false:=by simpa using h
  rw [this,Bool.false_or];congr 1;simp only [eq_iff_iff];omega
end bq
section
variable {P:Program} {ac:Nat->Nat->Value} {κ0:aL} {w0:World} {N:Nat} {ops:Array Oper} {St:Nat->Stp} {r:bq} {Q:Exit->Act->World->Prop}
theorem RInv.congr {L L':Nat->Bool} {a:Act} {w:World} (h:RInv ac κ0 w0 N r L a w) (hL:∀j,j<r.n->L j=L' j):RInv ac κ0 w0 N r L' a w:=by
 refine ⟨?_,h.size,h.defers,h.par,fun j t hj hl hw hd ho=>h.und j t hj (by rw [hL j hj];exact hl) hw hd ho⟩;rw [<-bq.dL_congr (r:=r) r.n hL,<-bq.sL_congr (r:=r) r.n hL];exact h.st
theorem ZC (hok:NN P N ops St r) (hQ:∀a w,RInv ac κ0 w0 N r (bq.lt r.n) a w->Q .normal a w) :
  ∀(m k:Nat) (a:Act) (w:World),k+m=r.n->RInv ac κ0 w0 N r (bq.lt k) a w->wpOps P ops Q (List.range' k m) a w
 | 0,k,a,w,hk,h=>by
  simp only [List.range',wpOps];exact hQ a w (by rw [show r.n=k from by omega];exact h)
 | m+1,k,a,w,hk,h=>by
  rw [List.range'_succ,wpOps_cons];refine Zz hok h (i:=k) (by omega) (by simp [bq.lt]) (fun j k' hb hl => ?_) (fun j hb => ?_) _ fun a' w' h' => ?_
  ·have:=hok.lt j k' hb;simp only [bq.lt,decide_eq_true_eq] at hl ⊢;omega
  ·have:=hok.lt j k hb;simp only [bq.lt,decide_eq_true_eq];omega
  ·rw [bq.ins_lt] at h';exact ZC hok hQ m (k+1) a' w' (by omega) h'
end
end Go.Fw
namespace Go.Fw
def YY (o:Oper):Bool:=match o.op with
 | .extract (.tmp _) _=>true
 | .move _=>true
 | _=>false
theorem YD {P:Program} {ops:Array Oper} {i:Nat} {o:Oper} {a:Act} {w:World} {K:Act->World->Prop} (hi:ops[i]?=some o) (hx:YY o=true) (hg:o.guard=none)
  (h:wpOp P ops (fun _ _ _=>False) i K a w):∃v,Yields P ops o v a/\K (a.put o.dst v) w:=by
 have hwt:Region.wanted o (yielded ops a.tmps)=true:=by simp [Region.wanted,hg]
 unfold wpOp at h;simp only [hi,hwt,if_true] at h;have h:o.wp P a w K (fun _ _ _=>False):=by
  rcases h with h|⟨_,_,_,h⟩
  ·exact h
  ·exact h.elim
 unfold YY at hx;split at hx;case h_3=>cases hx
 case h_2 x hop=>
  have hr:∀w,(execOp a.eval o).run P w = .ok (.value (a.eval x)) w:=by
   intro w;unfold execOp;rw [hop];rfl
  unfold Oper.wp at h;rw [hr w] at h;exact ⟨_,.inl ⟨hwt,hr⟩,h⟩
 case h_1 t n hop=>
 have hex:execOp a.eval o=(do pure (Next.value (<-Instr.extract (a.eval (.tmp t)) n)):Sem Next):=by
  unfold execOp;rw [hop]
 unfold Oper.wp at h;rw [hex] at h;cases hv:a.eval (.tmp t) with
 | tuple xs=>
  cases hn:xs[n]? with
  | some v=>
   have hr:∀w,(execOp a.eval o).run P w = .ok (.value v) w:=by
    intro w;rw [hex,hv];refine bT ?_;unfold Instr.extract;simp only [hn];rfl
   have h2:=hr w;rw [hex] at h2;rw [h2] at h;exact ⟨v,.inl ⟨hwt,hr⟩,h⟩
  | none=>
   rw [hv] at h;unfold Instr.extract at h;simp only [hn] at h;exact h.elim
 | _=>
  rw [hv] at h;exact h.elim
section
variable {P:Program} {ac:Nat->Nat->Value} {κ0:aL} {w0:World} {N:Nat} {ops:Array Oper} {St:Nat->Stp} {r:bq} {Q:Exit->Act->World->Prop}
theorem ald (hok:NN P N ops St r) (eg:Nat->Bool)
  (hbd:∀i o j,ops[i]?=some o->r.bef j i=true->(∃e,e∈o.after/\Region.binds .any e=true/\(e.on=j\/r.bef j e.on=true)) \/
   (j<i/\eg j=true/\∀oj,ops[j]?=some oj->∀e,e∈oj.after->Region.binds .any e=true->∃e',e'∈o.after/\Region.binds .any e'=true/\(e'.on=e.on\/r.bef e.on e'.on=true)))
  (hae:∀i o e,ops[i]?=some o->e∈o.after->Region.binds .any e=true->e.on<i)
  (heg:∀i o,ops[i]?=some o->eg i=true->YY o=true/\o.guard=none/\∀j oj,ops[j]?=some oj->j≠i->(∀e∈oj.after,Region.binds .any e=true->e.on≠i)->(∀e∈o.after,Region.binds .any e=true->e.on≠j)->o.apart ops oj=true)
  (hsel:∀(j:Nat) (o:Oper) cs b,ops[j]?=some o->o.op≠.select cs b)
  (hpan:∀c a w,¬Q (.panic c) a w) (hQ:∀a w,RInv ac κ0 w0 N r (bq.lt r.n) a w->Q .normal a w) :
  ∀(fuel:Nat) (listed:Array Bool) (a:Act) (w:World),listed.size=ops.size->(∀j k,r.bef j k=true->listed.getD k false=true->listed.getD j false=true) ->
   ((List.range ops.size).filter fun j=>!listed.getD j false).length<=fuel->RInv ac κ0 w0 N r (fun j=>listed.getD j false) a w->wpAny P .any ops Q fuel listed a w:=by
 have done:∀(listed:Array Bool) (a:Act) (w:World),listed.size=ops.size->Region.ready .any ops listed=[]->RInv ac κ0 w0 N r (fun j=>listed.getD j false) a w->Q .normal a w:=by
  intro listed a w hsz hre h;have all:∀j,j<ops.size->listed.getD j false=true:=by
   intro j;induction j using Nat.strongRecOn with
   | ind j ih=>
    intro hj;cases hl:listed.getD j false with
    | true=>rfl
    | false=>
     exfalso;have:j∈Region.ready .any ops listed:=by
      rw [mem_ready];refine ⟨?_,ops[j],by simp [hj],fun e he hb => ?_⟩
      ·simp only [Array.getD_eq_getD_getElem?] at hl ⊢;rw [Array.getElem?_eq_getElem (by omega)] at hl ⊢;simpa using hl
      ·have hlt:=hae j _ e (by simp [hj]) he hb;exact ih e.on hlt (by omega)
     rw [hre] at this;simp at this
  refine hQ a w (h.congr fun j hj => ?_);rw [all j (by rw [<-hok.n];exact hj)];simp [bq.lt,hj]
 intro fuel;induction fuel with
 | zero=>
  intro listed a w hsz hdown hf h;have hre:Region.ready .any ops listed=[]:=by
   rw [List.eq_nil_iff_forall_not_mem];intro i hi;rw [mem_ready] at hi;obtain ⟨h1,o,h2,_⟩:=hi;have hin:i<ops.size:=(Array.getElem?_eq_some_iff.1 h2).1;have h3:i∈(List.range ops.size).filter fun j=>!listed.getD j false:=by
    rw [List.mem_filter,List.mem_range];refine ⟨hin,?_⟩;simp only [Array.getD_eq_getD_getElem?] at h1 ⊢;rw [Array.getElem?_eq_getElem (by omega)] at h1 ⊢;simpa using h1
   have h4:=List.length_eq_zero_iff.1 (Nat.le_zero.1 hf);rw [h4] at h3;simp at h3
  exact ⟨hre,done listed a w hsz hre h⟩
 | succ fuel ih=>
  intro listed a w hsz hdown hf h
  -- one that is ready,ahead of which stand only such as are done
  have go:∀i,i∈Region.ready .any ops listed->(∀j,r.bef j i=true->listed.getD j false=true)->∀(Q':Exit->Act->World->Prop),wpOp P ops Q' i (wpAny P .any ops Q fuel (listed.setIfInBounds i true)) a w:=by
   intro i hi hpre Q';rw [mem_ready] at hi;obtain ⟨h1,o,h2,h3⟩:=hi;have hin:i<ops.size:=(Array.getElem?_eq_some_iff.1 h2).1;have hli:listed.getD i false=false:=by
    simp only [Array.getD_eq_getD_getElem?] at h1 ⊢;rw [Array.getElem?_eq_getElem (by omega)] at h1 ⊢;simpa using h1
   refine Zz hok h (by rw [hok.n];exact hin) hli hdown hpre _ fun a' w' h' => ?_
   have hset:∀j,(listed.setIfInBounds i true).getD j false=(j == i || listed.getD j false):=by
    intro j;simp only [Array.getD_eq_getD_getElem?,Array.getElem?_setIfInBounds];by_cases hji:i=j
    ·subst hji;simp [show i<listed.size by omega]
    ·have:(j == i)=false:=by simpa using Ne.symm hji
     simp [hji,this]
   refine ih _ a' w' (by simpa using hsz) (fun j k hb hl => ?_) ?_ (h'.congr fun j _=>by rw [hset j];rfl)
   ·rw [hset] at hl ⊢;simp only [Bool.or_eq_true,beq_iff_eq] at hl ⊢;rcases hl with rfl|hl
    ·exact .inr (hpre j hb)
    ·exact .inr (hdown j k hb hl)
   ·have hsub:((List.range ops.size).filter fun j=>!(listed.setIfInBounds i true).getD j false).length<((List.range ops.size).filter fun j=>!listed.getD j false).length:=by
     have h4:((List.range ops.size).filter fun j=>!(listed.setIfInBounds i true).getD j false)=((List.range ops.size).filter fun j=>!listed.getD j false).filter fun j=>!(j == i):=by
      rw [List.filter_filter];congr 1;funext j;rw [hset];cases (j == i)<;>simp
     rw [h4];refine List.length_filter_lt_length_iff_exists.2 ⟨i,?_,by simp⟩;rw [List.mem_filter,List.mem_range];exact ⟨hin,by rw [hli];rfl⟩
    omega
  -- of two of them the first is there,or can be done
  have pair:∀i o j,ops[i]?=some o->i∈Region.ready .any ops listed->j<i->(∀oj,ops[j]?=some oj->∀e,e∈oj.after->Region.binds .any e=true->∃e',e'∈o.after/\Region.binds .any e'=true/\(e'.on=e.on\/r.bef e.on e'.on=true)) ->
    listed.getD j false=false->j∈Region.ready .any ops listed:=by
   intro i o j h2 hi hji hde hl;obtain ⟨h1,o',h2',h3⟩:=mem_ready.1 hi;rw [h2] at h2';cases h2';have hjs:j<ops.size:=by
    have:=(Array.getElem?_eq_some_iff.1 h2).1;omega
   rw [mem_ready];refine ⟨?_,ops[j],by simp [hjs],fun e he hb' => ?_⟩
   ·simp only [Array.getD_eq_getD_getElem?] at hl ⊢;rw [Array.getElem?_eq_getElem (by omega)] at hl ⊢;simpa using hl
   ·obtain ⟨e',h4,h5,h6⟩:=hde _ (by simp [hjs]) e he hb';have:=h3 e' h4 h5;rcases h6 with h6|h6
    ·rw [<-h6];exact this
    ·exact hdown _ _ h6 this
  by_cases hE:∃i,i∈Region.ready .any ops listed/\eg i=true
  ·-- the first of them
   have hmin:∀n,(∃i,i<n/\i∈Region.ready .any ops listed/\eg i=true)->∃i,(i∈Region.ready .any ops listed/\eg i=true)/\∀j,j<i->¬(j∈Region.ready .any ops listed/\eg j=true):=by
    intro n;induction n with
    | zero=>rintro ⟨i,h,_⟩;omega
    | succ n ihn=>
     rintro ⟨i,hlt,h1⟩;by_cases hex:∃i,i<n/\i∈Region.ready .any ops listed/\eg i=true
     ·exact ihn hex
     ·have:i=n:=by
       by_cases hin:i<n
       ·exact absurd ⟨i,hin,h1⟩ hex
       ·omega
      subst this;exact ⟨i,h1,fun j hj hc=>hex ⟨j,hj,hc⟩⟩
   obtain ⟨i0,hi0⟩:=hE;obtain ⟨i,⟨hi,hgi⟩,hm⟩:=hmin (i0+1) ⟨i0,by omega,hi0⟩;obtain ⟨h1,o,h2,h3⟩:=mem_ready.1 hi;obtain ⟨hx,hgd,hap⟩:=heg i o h2 hgi;have hpre:∀j,r.bef j i=true->listed.getD j false=true:=by
    intro j hb;rcases hbd i o j h2 hb with ⟨e,he,hbi,hor⟩|⟨hji,hgj,hde⟩
    ·have hl:=h3 e he hbi;rcases hor with rfl|hor
     ·exact hl
     ·exact hdown j e.on hor hl
    ·cases hl:listed.getD j false with
     | true=>rfl
     | false=>exact absurd ⟨pair i o j h2 hi hji hde hl,hgj⟩ (hm j hji)
   obtain ⟨v,hy,hk⟩:=YD h2 hx hgd (go i hi hpre _);exact wpAny_first h2 hsel (fun c a w h=>absurd h (hpan c _ _)) fuel listed a w (fun j oj hj hne hun hno=>hap j oj hj hne hno fun e he hb' heq=>by
    have:=h3 e he hb'
    rw [heq] at this
    rcases Nat.lt_or_ge j listed.size with h'|h'
    ·simp [h'] at this hun;rw [hun] at this;cases this
    ·simp [Array.getElem?_eq_none h'] at this) hi hy hk
  ·refine ⟨fun hre=>done listed a w hsz hre h,fun i hi => ?_⟩;obtain ⟨h1,o,h2,h3⟩:=mem_ready.1 hi;refine go i hi (fun j hb => ?_) _;rcases hbd i o j h2 hb with ⟨e,he,hbi,hor⟩|⟨hji,hgj,hde⟩
   ·have hl:=h3 e he hbi;rcases hor with rfl|hor
    ·exact hl
    ·exact hdown j e.on hor hl
   ·cases hl:listed.getD j false with
    | true=>rfl
    | false=>exact absurd ⟨j,pair i o j h2 hi hji hde hl,hgj⟩ hE
end
end Go.Fw
namespace Go.Fw
def Eff.pre (f:(Nat->AV)->Option (Nat->AV)):Eff->Eff
 | .det h=>.det fun s=>match f s with
  | some s1=>h s1
  | none=>none
 | .call K sg args post=>.call K sg (fun s=>match f s with
  | some s1=>args s1
  | none=>none) fun res outs s=>match f s with
  | some s1=>post res outs s1
  | none=>none
def NP (t:Nat) (s:Nat->AV):Option (Nat->AV):=
 match fK t s with
 | some as=>some (upd s t (.v as []))
 | none=>none
theorem Eff.pre_rel {P:Program} {f:(Nat->AV)->Option (Nat->AV)} {E:Eff} {s:Nat->AV} {v:List AV} (h:(E.pre f).rel P s v):∃s1,f s=some s1/\E.rel P s1 v:=by
 cases E with
 | det h0=>
  simp only [Eff.pre,Eff.rel] at h;split at h
  ·rename_i s1 hs;exact ⟨s1,hs,h⟩
  ·cases h
 | call K sg args post=>
  simp only [Eff.pre,Eff.rel] at h;obtain ⟨as,res,outs,h1,h2,h3⟩:=h;split at h1
  ·rename_i s1 hs;rw [hs] at h3;exact ⟨s1,hs,as,res,outs,h1,h2,h3⟩
  ·cases h1
def Stp.take (t:Nat) (S1 S2:Stp):Stp:=⟨S2.up++S1.up.map (fun p=>(p.1,S2.kl p.2)),fun T=>S2.kl (S1.kl T),t::S2.rd,S2.eff.pre (NP t)⟩
def wM (g:Nat->TT) (S:Stp):Nat->TT:=ay (fun t=>S.kl (g t)) S.up
theorem anu {P:Program} {N:Nat} {g:Nat->TT} {o:Oper} {t:Nat} {S1 S2:Stp} (h1:qp N g t=some S1) (hk:S1.kl .dead = .dead) (hk2:S2.kl .dead = .dead) (h2:dh P N o (wM g S1) S2) (ht:t∈S2.up.map (·.1)) (hv:∀s v,S2.eff.rel P s v->v.length<=S2.up.length)  :
  dh P N o g (Stp.take t S1 S2):=by
 intro ac κ0 κ w0 w tg sv s a v next Q hN hR hL hv0 hcont;simp only [Stp.take] at hv0;obtain ⟨s1,hs1,hrel⟩:=Eff.pre_rel hv0;simp only [NP] at hs1;split at hs1;case h_2=>cases hs1
 case h_1 as has=>
 cases hs1;have hup:∃T1 r T2,S1.up=[(t,T1),(r,T2)]/\t≠r/\S1.eff = .det (eY t)/\g r≠.dead/\g t≠.dead:=by
  unfold qp at h1;split at h1;case h_2=>cases h1
  case h_1 ag cs0 r off S0 hT=>
  split at h1
  ·rename_i gg cs hr;split at h1
   ·rename_i hc;cases h1;exact ⟨_,r,_,rfl,hc.2.2.1,rfl,by rw [hr];simp,by rw [hT];simp⟩
   ·cases h1
  ·rename_i cs hr;split at h1
   ·rename_i hc;cases h1;exact ⟨_,r,_,rfl,hc.2.2.1,rfl,by rw [hr];simp,by rw [hT];simp⟩
   ·cases h1
  ·cases h1
 obtain ⟨T1,r,T2,hup,htr,heff,hgr,hgt⟩:=hup;have hps:=afU (P:=P) h1;obtain ⟨κ',tg',sv',hR',htg',hsv'⟩:=hps ac κ0 κ w0 w tg sv s (gm a) [.v as []] hR hL (by rw [heff];simp [Eff.rel,eY,has]);have hL':Le (wM g S1) (upd s t (.v as [])) tg' sv':=by
  intro u;rw [htg' u,hsv' u];simp only [wM,hup,ay,List.map_cons,List.map_nil,List.zip_cons_cons,List.zip_nil_right,upd];by_cases hut:u=t
  ·simp [hut]
  ·simp only [if_neg hut];by_cases hur:u=r
   ·subst hur;simp only [if_true];right;refine ⟨trivial,?_⟩;rcases hL u with h3|h3
    ·exact absurd h3 hgr
    ·exact h3.2
   ·simp only [if_neg hur];rcases hL u with h3|⟨h3,h4⟩
    ·left;rw [h3,hk]
    ·right;exact ⟨by rw [h3],h4⟩
 refine h2 ac κ0 κ' w0 w tg' sv' _ a v next Q hN hR' hL' hrel fun x w' κ'' tg'' sv'' hR'' htg'' hsv'' => ?_
 have hvl:=hv _ _ hrel;refine hcont x w' κ'' tg'' sv'' hR'' (fun u => ?_) (fun u => ?_)
 ·rw [htg'' u];simp only [Stp.take];rw [yK];by_cases hu:u∈S2.up.map (·.1)
  ·exact bq.upds_in hu
  ·rw [bq.upds_out hu,bq.upds_out hu,htg' u,hup];simp only [ay,List.map_cons,List.map_nil];split
   ·rfl
   ·split<;>rfl
 ·rw [hsv'' u];simp only [Stp.take];have hz:((S2.up++S1.up.map fun p=>(p.1,S2.kl p.2)).map (·.1)).zip v=(S2.up.map (·.1)).zip v:=by
   rw [List.map_append];exact EJ (by simpa using hvl)
  rw [hz];by_cases hu:u∈((S2.up.map (·.1)).zip v).map (·.1)
  ·exact bq.upds_in hu
  ·rw [bq.upds_out hu,bq.upds_out hu,hsv' u,hup];simp only [ay,List.map_cons,List.map_nil,List.zip_cons_cons,List.zip_nil_right];split
   ·rename_i hut;subst hut;have hal:∃ag cs0 r off S0,g u = .alias ag cs0 r [] off S0:=by
     unfold qp at h1;split at h1
     ·rename_i ag cs0 r off S0 hT;exact ⟨_,_,_,_,_,hT⟩
     ·cases h1
    obtain ⟨ag,cs0,r',off,S0,hT⟩:=hal;obtain ⟨e1,e2⟩:=hL.at hT (by simp);have h5:=hR.tr u;rw [e1] at h5;simp only [TR] at h5;obtain ⟨as',is,vs,gf,ra,row,k1,_,_,_,_,k5,_⟩:=h5;have his:is=[]:=by
     cases is with
     | nil=>rfl
     | cons=>simp [dQ] at k5
    subst his;rw [k1];obtain ⟨is2,hs2⟩:=bG has;rw [e2,hs2] at k1;cases k1;rfl
   ·rfl
end Go.Fw
namespace Go.Fw
def woff:List (Bool × Nat)->Nat->Nat
 | [],_=>0
 | _,0=>0
 | (_,n)::ws,i+1=>n+woff ws i
theorem J6:∀{ws:List (Bool × Nat)} {xs vs:List Value} {i:Nat} {ag:Bool} {n:Nat},oK ws xs=some vs->ws[i]?=some (ag,n) ->
  ∃x,xs[i]?=some x/\cellsOf ag x=some ((vs.drop (woff ws i)).take n)/\woff ws i+n<=vs.length
 | [],_,_,_,_,_,_,h=>by simp at h
 | _::_,[],_,_,_,_,h,_=>by simp [oK] at h
 | (g,m)::ws,x::xs,vs,i,ag,n,h,hw=>by
  simp only [oK] at h;split at h;case h_2=>cases h
  case h_1 a b ha hb=>
  split at h;case isFalse=>cases h
  case isTrue hm=>
  cases h;cases i with
  | zero=>
   simp at hw;obtain ⟨rfl,rfl⟩:=hw;refine ⟨x,by simp,?_,?_⟩
   ·simp only [woff,List.drop_zero];rw [<-hm,List.take_left];exact ha
   ·simp [woff,hm]
  | succ i=>
   obtain ⟨y,h1,h2,h3⟩:=J6 hb (by simpa using hw);refine ⟨y,by simpa using h1,?_,?_⟩
   ·simp only [woff];rw [<-hm,<-List.drop_drop,List.drop_left];exact h2
   ·simp only [woff,bZ];omega
def nY (t off n:Nat) (s:Nat->AV):Option (List AV):=(fK t s).map fun as=>[.v ((as.drop off).take n) []]
def ZE (N:Nat) (g:Nat->TT) (o:Oper):Option Stp:=
 match o.dst,o.op with
 | some d,.extract (.tmp t) i=>match g t with
  | .tup ws cs=>match ws[i]? with
   | some (ag,n)=>if d<N/\t<N/\d≠t/\CT.mens [t] cs=false/\woff ws i+n<=cs.length/\eU ((cs.drop (woff ws i)).take n)=true then
     some ⟨[(d,.val ag ((cs.drop (woff ws i)).take n)),(t,.tup ws (iE (woff ws i) n cs))],fun T=>T.kill [d,t] [t],[t],.det (nY t (woff ws i) n)⟩ else none
   | none=>none
  | _=>none
 | _,_=>none
theorem ait {P:Program} {N:Nat} {g:Nat->TT} {o:Oper} {S:Stp} (h:ZE N g o=some S):dh P N o g S:=by
 unfold ZE at h;split at h;case h_2=>cases h
 case h_1 d t i hd ho=>
 split at h;case h_2=>cases h
 case h_1 ws cs hT=>
 split at h;case h_2=>cases h
 case h_1 ag n hw=>
 split at h;case isFalse=>cases h
 case isTrue hc=>
 obtain ⟨hdN,htN,hdt,hm,hn,hnp⟩:=hc;cases h;intro ac κ0 κ w0 w tg sv s a v next Q hN hR hL hv hcont;simp only [Eff.rel,nY,Option.map_eq_some_iff] at hv;obtain ⟨as,hg,rfl⟩:=hv;obtain ⟨e1,e2⟩:=hL.at hT (by simp);have h1:=hR.tr t;rw [e1] at h1;simp only [TR] at h1;obtain ⟨as',xs,vs,g1,g2,g3,g4,g5⟩:=h1;obtain ⟨is,hs⟩:=bG hg;rw [e2,hs] at g1;cases g1;obtain ⟨x,hx,hcx,_⟩:=J6 g3 hw;have hR':=aic hR hdN htN hdt e1 hm hn (g:=ag) (x:=x) (as:=as) (by rw [e2,hs]) hnp (fun xs' vs' k1 k2=>by
  rw [g2] at k1;cases k1
  rw [g3] at k2;cases k2
  exact hcx)
 refine FK (w':=w) (x:=x) ?_ (hcont x w _ _ _ (by rw [hd,lu (a:=a) (by rw [hN];exact hdN)];exact hR') (fun u => ?_) (fun u => ?_))
 ·unfold execOp;rw [ho];simp only;refine bT ?_;have hev:a.eval (.tmp t)=gm a t:=rfl;rw [hev,g2];unfold Instr.extract;simp only;have hx':xs[i]?=some x:=by simpa using hx
  rw [hx'];rfl
 ·simp only [ay,upd]
 ·simp [ay,upd]
end Go.Fw
namespace Go.Fw
theorem Qk {κ:aL} {w:World} {e:List CT} {p:Pl} {get:Nat->Value}:∀{l j:Nat} {xs:List (List A)},bN κ w e p j get xs->bN κ w e p (j+l*e.length) get (xs.drop l)
 | 0,j,xs,h=>by simpa using h
 | l+1,j,[],h=>by simp [bN]
 | l+1,j,x::xs,h=>by
  simp only [bN] at h;have:=Qk (l:=l) h.2;rw [show j+e.length+l*e.length=j+(l+1)*e.length from by rw [Nat.add_mul];omega] at this;simpa using this
theorem FP {κ:aL} {w:World} {e:List CT} {p:Pl} {get:Nat->Value}:∀{l j:Nat} {xs:List (List A)},bN κ w e p j get xs->bN κ w e p j get (xs.take l)
 | 0,j,xs,h=>by simp [bN]
 | l+1,j,[],h=>by simp [bN]
 | l+1,j,x::xs,h=>by
  simp only [bN] at h;simp only [List.take_succ_cons,bN];exact ⟨h.1,FP h.2⟩
theorem J7 {κ:aL} {w:World} {e:List CT} {p p':Pl} (hn:CT.nowns e=true):∀{xs:List (List A)} {j j':Nat} {get get':Nat->Value},(∀i,i<xs.length*e.length->get' (j'+i)=get (j+i)) ->
  bN κ w e p j get xs->bN κ w e p' j' get' xs
 | [],_,_,_,_,_,_=>by simp [bN]
 | x::xs,j,j',get,get',hg,h=>by
  simp only [bN] at h ⊢;simp only [bA,Nat.add_mul,Nat.one_mul] at hg;refine ⟨h_ (P:=fun _=>True) (fun S _ b hb=>⟨hb,Same.refl w b⟩) hn (fI (fun _=>trivial) e) (fun i hi=>hg i (by omega)) h.1,J7 hn (fun i hi => ?_) h.2⟩;have:=hg (e.length+i) (by omega);rw [show j'+e.length+i=j'+(e.length+i) from by omega,show j+e.length+i=j+(e.length+i) from by omega];exact this
theorem aoJ {κ:aL} {w:World} {S:List Nat} {e:List CT} {p:Pl} {ao:Option Addr} {n cap l h:Nat} {xs:List (List A)} (hne:CT.nowns e=true) (hr:RC κ w (.sl (.ro S) e) p (.slice ao n cap) (.s xs)) (h1:l<=h) (h2:h<=xs.length) :
  n=xs.length/\h<=cap/\RC κ w (.sl (.ro S) e) p (.slice (if cap=l then ao else ao.map (·.add (l*e.length))) (h-l:Nat) (cap-l)) (.s ((xs.drop l).take (h-l))):=by
 simp only [RC] at hr;obtain ⟨ao',cap',hx,hle,hc⟩:=hr;cases hx;have hlen:((xs.drop l).take (h-l)).length=h-l:=by simp;omega
 refine ⟨rfl,by omega,?_⟩;simp only [RC,hlen];refine ⟨_,_,rfl,by omega,?_⟩;rcases hc with rfl|⟨b,o,rfl,hb,hrd,he⟩
 ·left;simp
 ·by_cases hz:h-l=0
  ·left;rw [hz];simp
  ·right;have hcl:cap≠l:=by omega
   rw [if_neg hcl];refine ⟨b,o+l*e.length,by simp only [Option.map_some];rw [uh],hb,fun q q1 q2=>hrd q (by omega) ?_,?_⟩
   ·have h3:l*e.length+(h-l)*e.length=h*e.length:=by rw [<-Nat.add_mul];congr 1;omega
    have h4:h*e.length<=xs.length*e.length:=Nat.mul_le_mul_right _ h2;omega
   ·have h5:=FP (l:=h-l) (Qk (l:=l) he);rw [Nat.zero_add] at h5;refine J7 hne (fun i _ => ?_) h5;show cellD w b _=cellD w b _;congr 1;omega
theorem aiu {ac:Nat->Nat->Value} {κ0 κ:aL} {w0 w:World} {N:Nat} {tg:Nat->TT} {sv:Nat->AV} {tm:Nat->Value} (h:R ac κ0 w0 κ w N tg sv tm) {d:Nat} (hd:d<N) {S:List Nat} {e:List CT} {p:Pl} {x:Value} {xs:List (List A)}
  (hne:CT.nowns e=true) (hr:RC κ w (.sl (.ro S) e) p x (.s xs)) :
  R ac κ0 w0 (aT κ (fw d) none) w N (g_ tg d (.val false [.sl (.ro S) e])) (upd sv d (.v [.s xs] [])) (upd tm d x):=by
 refine jO h hd (Grows.refl w) (fun _ _ h=>by cases h) ?_;have hx:cellsOf false x=some [x]:=by
  simp only [RC] at hr;obtain ⟨ao,cap,rfl,_⟩:=hr;rfl
 have hcl:=fun S b hb=>jw (κ:=κ) (w:=w) (w':=w) (d:=d) (nb:=none) (Grows.refl w) (fun _ _ h=>by cases h) S b hb
 simp only [TR,bB];refine ⟨_,[x],rfl,hx,rfl,fun k j c e' hc => ?_,?_⟩
 ·cases k<;>simp at hc
 ·simp only [ax];exact ⟨U6 (P:=fun _=>True) (fun S _ b hb=>hcl S b hb) (by simpa [CT.nown] using hne) (WN (fun _=>trivial) _) hr,trivial⟩
def vW (s:Nat->AV) (dflt:Nat):Option DX->Option Nat
 | none=>some dflt
 | some X=>match X.get s with
  | some v=>toN v
  | none=>none
def J8 (g:Nat->TT):Option Operand->Option (Option DX)
 | none=>some none
 | some x=>(jR g x).map some
def EL (t:Nat) (lo hi:Option DX) (s:Nat->AV):Option (List AV):=
 match oZ t s with
 | some (xs,_)=>match vW s 0 lo,vW s xs.length hi with
  | some l,some h=>if l<=h/\h<=xs.length then some [.v [.s ((xs.drop l).take (h-l))] []] else none
  | _,_=>none
 | none=>none
def ZF (P:Program) (N:Nat) (g:Nat->TT) (o:Oper):Option Stp:=
 match o.dst,o.op with
 | some d,.slice ty (.tmp t) lo hi none=>match P.underlying ty,nU P g ty 0 (.tmp t),J8 g lo,J8 g hi with
  | some (.slice et),some X,some L,some H=>match P.info? et,X.ag,X.cs with
   | some i,false,[.sl m e]=>
    let S:=t::CT.srcss X.cs
    if d<N/\CT.lives X.cs=true/\i.size=e.length then
     some (Stp.set d (.val false [.sl (.ro S) (CT.roizes S e)]) [t] (.det (EL t L H)))
    else none
   | _,_,_=>none
  | _,_,_,_=>none
 | _,_=>none
theorem FQ {ac:Nat->Nat->Value} {κ0 κ:aL} {w0 w:World} {N:Nat} {tg g:Nat->TT} {sv s:Nat->AV} {a:Act} (hR:R ac κ0 w0 κ w N tg sv (gm a)) (hL:Le g s tg sv) {x:Option Operand} {X:Option DX} (hx:J8 g x=some X) {n l:Nat}
  (hb:vW s n X=some l):(x.map a.eval=none/\l=n)\/∃k,x.map a.eval=some (.int k (l:Int)):=by
 cases x with
 | none=>simp only [J8,aK] at hx;subst hx;simp only [vW,aK] at hb;exact .inl ⟨rfl,hb.symm⟩
 | some x=>
  simp only [J8,Option.map_eq_some_iff] at hx;obtain ⟨Y,hY,rfl⟩:=hx;simp only [vW] at hb;split at hb
  ·rename_i v hv;obtain ⟨k,m,rfl,h0,rfl⟩:=Qd hb;obtain ⟨e1,_⟩:=oW hR hL hY hv;exact .inr ⟨k,by simp [e1,Int.toNat_of_nonneg h0]⟩
  ·cases hb
theorem aiv {P:Program} {N:Nat} {g:Nat->TT} {o:Oper} {S:Stp} (h:ZF P N g o=some S):dh P N o g S:=by
 unfold ZF at h;split at h;case h_2=>cases h
 case h_1 d ty t lo hi hd ho=>
 split at h;case h_2=>cases h
 case h_1 et X L H hty hX hLo hHi=>
 split at h;case h_2=>cases h
 case h_1 i m e hi' hag hcs=>
 simp only at h;split at h;case isFalse=>cases h
 case isTrue hc=>
 obtain ⟨hdN,hlv,hsz⟩:=hc;cases h;intro ac κ0 κ w0 w tg sv s a v next Q hN hR hL hv hcont;simp only [Stp.set,Eff.rel,EL] at hv;split at hv;case h_2=>cases hv
 case h_1 xs is hxs=>
 split at hv;case h_2=>cases hv
 case h_1 l h hl hh=>
 split at hv;case isFalse=>cases hv
 case isTrue hb=>
 cases hv;have hst:=vU hxs;have hXt:X.t=t/\X.get=fK t:=by
  simp only [nU] at hX;split at hX
  ·cases hX;exact ⟨rfl,rfl⟩
  ·split at hX
   ·cases hX;exact ⟨rfl,rfl⟩
   ·cases hX
  ·cases hX
 obtain ⟨vs,k1,k2,k3,_⟩:=nV hR hL hX (as:=[.s xs]) (by rw [hXt.2];unfold fK;rw [hst]);rw [hag] at k1;have hvs:=iN k1;subst hvs;rw [hXt.1] at k3;have k4:=NC (S:=t::CT.srcss X.cs) (p':=(d,[])) (j':=0) (get':=fun k=>[a.eval (.tmp t)].getD k undef) hlv (by simp) (iy fun r hr=>by simp [hr]) (fun _ _=>rfl) k3;rw [hcs] at k4 hlv;simp only [CT.roizes,CT.roize,ax] at k4;obtain ⟨k5,_⟩:=k4;have k5':RC κ w (.sl (.ro (t::CT.srcss X.cs)) (CT.roizes (t::CT.srcss X.cs) e)) (Pl.at (d,[]) 0) (a.eval (.tmp t)) (.s xs):=by
  rw [hcs];simpa using k5
 obtain ⟨ao,cap,hev⟩:=J2 (by simp) k5';rw [hev] at k5';obtain ⟨_,hhc,hsub⟩:=aoJ (kE _ e) k5' hb.1 hb.2;rw [bP] at hsub;refine gp hd hN hdN (w':=w) ?_ (aiu hR hdN (kE _ e) hsub) hcont;unfold execOp;rw [ho];simp only;refine bT ?_;rw [hev];have hrun:=WK (P:=P) (t:=ty) (e:=et) (i:=i) (ao:=ao) (len:=xs.length) (cap:=cap) (lo:=lo.map a.eval) (hi:=hi.map a.eval) (l:=l) (h:=h) (w:=w) hty hi' (FQ hR hL hLo hl) (FQ hR hL hHi hh) hb.1 hhc;rw [hsz] at hrun;simpa using hrun
end Go.Fw
namespace Go.Fw
def ZG (t d:Nat) (p:Pl):Option Pl:=if p.1=t then some (d,p.2) else if p.1=d then none else some p
theorem anv {ac:Nat->Nat->Value} {κ0 κ:aL} {w0 w:World} {N:Nat} {tg:Nat->TT} {sv:Nat->AV} {tm:Nat->Value} (h:R ac κ0 w0 κ w N tg sv tm) {d t:Nat} (hd:d<N) (htd:t≠d) {cs:List CT} (ht:tg t = .box cs) (hm:CT.mens [t] cs=false)
  {as:List A} (hs:sv t = .v as []) :
  R ac κ0 w0 (aT κ (ZG t d) none) w N (upd (fun u=>if u∈[t] then .dead else (tg u).kill [d,t] [t]) d (.box cs)) (upd sv d (.v as [])) (upd tm d (tm t)):=by
 have htN:t<N:=by
  apply Nat.lt_of_not_le;intro hle;have:=h.out t hle;rw [ht] at this;cases this
 have hM:∀r q p,ZG t d (r,q)=some p->r∉[t]->p=(r,q):=by
  intro r q p hp hr;unfold ZG at hp;simp only [List.mem_singleton] at hr;rw [if_neg hr] at hp;split at hp
  ·cases hp
  ·cases hp;rfl
 refine U3 (mods:=[d,t]) (M:=[t]) h (by have:=h.nle;simp;omega) (Grows.refl w) (fun r q hr => ?_) hM (fun _ _ h=>by cases h) (fun r hr => ?_) (fun r hr => ?_) (fun r hr => ?_) (fun u hu => ?_) (fun u hu => ?_)
 ·simp at hr;simp [ZG,hr]
 ·simp at hr;simp [upd,hr]
 ·simp at hr;simp [upd,hr]
 ·simp at hr;simp [upd,hr]
 ·by_cases hud:u=d
  ·subst hud;have h1:=h.tr t;rw [ht] at h1;simp only [TR,bB] at h1 ⊢;obtain ⟨as',b,g1,g2,g3,g4,g5,g6,g7⟩:=h1;rw [hs] at g1;cases g1;have hat:∀b q,κ b=some (t,q)->aT κ (ZG t u) none b=some (u,q):=fun b q hb=>by simp [aT,hb,ZG]
   refine ⟨as,b,rfl,g2,g3,hat b [] g4,g5,g6,?_⟩;have hs:CT.allSs (fun S=>∀m,m∈[t]->m∉S) cs:=dA (fun S hS=>hS) hm;have:=dN (f:=id) (κ':=aT κ (ZG t u) none) (w':=w) (p':=(u,[])) (get':=cellD w b) (fun S hS b hb=>jP (Grows.refl w) hM (fun _ _ h=>by cases h) hS b hb) hs (fun i _ b q hb=>⟨by simpa using hat b _ hb,Same.refl w b⟩) (fun _ _=>rfl) g7;rwa [fq] at this
  ·have:u=t:=by simpa [hud] using hu
   subst this;simp [upd,hud,TR]
 ·have h1:u≠d:=by omega
  have h2:u≠t:=by omega
  simp [upd,h1,h2,h.out u hu,TT.kill]
def ZH (N:Nat) (g:Nat->TT) (hint:Bool) (o:Oper):Option Stp:=
 if hint then match o.dst,o.op with
  | some d,.assign (.tmp t)=>match g t with
   | .box cs=>if d<N/\t≠d/\CT.mens [t] cs=false then some (Stp.mv d [t] (.box cs) [t] (.det (eY t))) else none
   | _=>none
  | _,_=>none
 else none
theorem aiw {P:Program} {N:Nat} {g:Nat->TT} {hint:Bool} {o:Oper} {S:Stp} (h:ZH N g hint o=some S):dh P N o g S:=by
 unfold ZH at h;split at h;case isFalse=>cases h
 split at h;case h_2=>cases h
 case h_1 d t hd ho=>
 split at h;case h_2=>cases h
 case h_1 cs hT=>
 split at h;case isFalse=>cases h
 case isTrue hc=>
 cases h;intro ac κ0 κ w0 w tg sv s a v next Q hN hR hL hv hcont;simp only [Stp.mv,Eff.rel,eY,Option.map_eq_some_iff] at hv;obtain ⟨as,hg,rfl⟩:=hv;obtain ⟨e1,e2⟩:=hL.at hT (by simp);obtain ⟨is,hs⟩:=bG hg;have h1:=hR.tr t;rw [e1] at h1;simp only [TR] at h1;obtain ⟨as',b,g1,_⟩:=h1;rw [e2,hs] at g1;cases g1;refine qW hd hN hc.1 (w':=w) (x:=gm a t) ?_ (anv hR hc.1 hc.2.1 e1 hc.2.2 (by rw [e2,hs])) hcont;unfold execOp;rw [ho];rfl
inductive EK where
 | b
 | i
 | s
def jG:List EK->List Value->List Value->Option Bool
 | [],[],[]=>some true
 | .b::ks,.bool a::xs,.bool b::ys=>(jG ks xs ys).map fun r=>(a == b)&&r
 | .i::ks,.int k a::xs,.int k' b::ys=>if k=k' then (jG ks xs ys).map fun r=>(a == b)&&r else none
 | .s::ks,.string a::xs,.string b::ys=>(jG ks xs ys).map fun r=>(a.toList == b.toList)&&r
 | _,_,_=>none
theorem Bc:∀{k1 k2:List EK} {xs ys:List Value} {r:Bool},jG (k1++k2) xs ys=some r->∃r1 r2,jG k1 (xs.take k1.length) (ys.take k1.length)=some r1/\jG k2 (xs.drop k1.length) (ys.drop k1.length)=some r2/\r=(r1&&r2)
 | [],k2,xs,ys,r,h=>⟨true,r,by simp [jG],by simpa using h,by simp⟩
 | k::k1,k2,xs,ys,r,h=>by
  simp only [List.cons_append] at h;unfold jG at h;split at h
  ·rename_i h1;cases h1
  ·rename_i ks a xs' b ys' h1;cases h1;simp only [Option.map_eq_some_iff] at h;obtain ⟨r',h2,rfl⟩:=h;obtain ⟨r1,r2,g1,g2,rfl⟩:=Bc h2;refine ⟨_,r2,?_,by simpa using g2,(Bool.and_assoc _ _ _).symm⟩;simp only [bA,List.take_succ_cons,jG,g1,Option.map_some]
  ·rename_i ks k0 a xs' k0' b ys' h1;cases h1;split at h;case isFalse=>cases h
   case isTrue hk=>
   simp only [Option.map_eq_some_iff] at h;obtain ⟨r',h2,rfl⟩:=h;obtain ⟨r1,r2,g1,g2,rfl⟩:=Bc h2;refine ⟨_,r2,?_,by simpa using g2,(Bool.and_assoc _ _ _).symm⟩;simp only [bA,List.take_succ_cons,jG,hk,g1,Option.map_some,if_true]
  ·rename_i ks a xs' b ys' h1;cases h1;simp only [Option.map_eq_some_iff] at h;obtain ⟨r',h2,rfl⟩:=h;obtain ⟨r1,r2,g1,g2,rfl⟩:=Bc h2;refine ⟨_,r2,?_,by simpa using g2,(Bool.and_assoc _ _ _).symm⟩;simp only [bA,List.take_succ_cons,jG,g1,Option.map_some]
  ·cases h
theorem adY:∀{ks:List EK} {xs ys:List Value} {r:Bool},jG ks xs ys=some r->xs.length=ks.length/\ys.length=ks.length:=by
 intro ks;induction ks with
 | nil=>intro xs ys r h;cases xs<;>cases ys<;>simp [jG] at h;simp
 | cons k ks ih=>
  intro xs ys r h;unfold jG at h;split at h
  ·rename_i h1;cases h1
  ·rename_i h1;cases h1;simp only [Option.map_eq_some_iff] at h;obtain ⟨r',h2,_⟩:=h;have:=ih h2;simp [this.1,this.2]
  ·rename_i h1;cases h1;split at h;case isFalse=>cases h
   simp only [Option.map_eq_some_iff] at h;obtain ⟨r',h2,_⟩:=h;have:=ih h2;simp [this.1,this.2]
  ·rename_i h1;cases h1;simp only [Option.map_eq_some_iff] at h;obtain ⟨r',h2,_⟩:=h;have:=ih h2;simp [this.1,this.2]
  ·cases h
def ZI (P:Program) (K:TypeId->Option (List EK)):List Field->Nat->Option (List EK)
 | [],_=>some []
 | f::fs,off=>match P.info? f.type with
  | some i=>match K f.type,ZI P K fs (off+i.size) with
   | some k1, some k2 => if f.name ≠ "_" ∧ f.offset = off ∧ i.size = k1.length ∧ 0 < k1.length then some (k1 ++ k2) else none
   | _,_=>none
  | none=>none
def J9 (P:Program):Nat->TypeId->Option (List EK)
 | 0,_=>none
 | d+1,t=>match P.underlying t with
  | some .bool=>some [.b]
  | some (.int _)=>some [.i]
  | some .string=>some [.s]
  | some (.struct fs)=>if P.stoodInHeld t=false then ZI P (J9 P d) fs.toList 0 else none
  | _=>none
abbrev eqF (P:Program) (d:Nat):List Field->Nat->Option (List EK):=ZI P (J9 P d)
def valOf (P:Program) (t:TypeId) (xs:List Value):Value:=
 match P.underlying t with
 | some (.struct _)=>.agg xs.toArray
 | _=>xs.getD 0 undef
section
variable {P:Program} {w:World}
theorem ZJ {d:Nat} {t:TypeId} {i:TypeInfo} {ks:List EK} (hi:P.info? t=some i) (hk:J9 P d t=some ks) (hsz:i.size=ks.length) {X:Array Value} {off:Nat} (hfit:off+ks.length<=X.size) :
  (part t X off).run P w = .ok (valOf P t ((X.toList.drop off).take ks.length)) w:=by
 cases d with
 | zero=>simp [J9] at hk
 | succ d=>
  simp only [J9] at hk;unfold part valOf;have one:∀{g:Bool},qP P t=some g->g=false->ks.length=1->(∀fs,P.underlying t≠some (.struct fs))->((do if <-isAgg t then pure (.agg (X.extract off (off+(<-sizeOf t)))) else match X[off]? with
    | some v=>pure v
    | none => stuck "part: no such cell") : Sem Value).run P w = .ok (match P.underlying t with
    | some (.struct _)=>.agg ((X.toList.drop off).take ks.length).toArray
    | _=>((X.toList.drop off).take ks.length).getD 0 undef) w:=by
   intro g hg hgf hl hns;rw [aC (Bb hg w)];subst hgf;simp only [Bool.false_eq_true,if_false];have hlt:off<X.size:=by omega
   have h1:X[off]?=some X[off]:=by simp [hlt]
   rw [h1];have h2:((X.toList.drop off).take ks.length).getD 0 undef=X[off]:=by
    rw [bJ,List.getElem?_take_of_lt (by omega),List.getElem?_drop];simp [hlt]
   rw [h2];rfl
  split at hk
  ·rename_i hu;cases hk;exact one (g:=false) (by simp [qP,hu]) rfl rfl (by simp [hu])
  ·rename_i k hu;cases hk;exact one (g:=false) (by simp [qP,hu]) rfl rfl (by simp [hu])
  ·rename_i hu;cases hk;exact one (g:=false) (by simp [qP,hu]) rfl rfl (by simp [hu])
  ·rename_i fs hu;rw [aC (Bb (g:=true) (by simp [qP,hu]) w)];simp only [if_true];rw [aC (run_sizeOf hi w),hu];simp only [hsz];show Result.ok (Value.agg (X.extract off (off+ks.length))) w=_;congr 2;apply Array.ext';simp [List.drop_take,Nat.add_sub_cancel_left]
  ·cases hk
theorem anw:∀{d:Nat},(∀{t:TypeId} {ks:List EK} {xs ys:List Value} {r:Bool} (m:Nat),J9 P d t=some ks->jG ks xs ys=some r->(Op.equalIn (m+d) t (valOf P t xs) (valOf P t ys)).run P w = .ok r w) /\
  (∀{fs:List Field} {off:Nat} {ks:List EK} {X Y:Array Value} {r:Bool} (m:Nat),eqF P d fs off=some ks->jG ks (X.toList.drop off) (Y.toList.drop off)=some r->(Op.eqFields (m+d) X Y fs).run P w = .ok r w):=by
 intro d;induction d with
 | zero=>
  refine ⟨fun m hk=>by simp [J9] at hk,fun {fs} => ?_⟩;induction fs with
  | nil=>
   intro off ks X Y r m hf hv;simp only [ZI,aK] at hf;subst hf;cases hx:X.toList.drop off<;>cases hy:Y.toList.drop off<;>rw [hx,hy] at hv<;>simp [jG] at hv;subst hv;rfl
  | cons f fs ih=>
   intro off ks X Y r m hf hv;simp only [ZI,J9] at hf;split at hf
   ·cases hf
   ·cases hf
 | succ d ih=>
  have hK:∀{t:TypeId} {ks:List EK} {xs ys:List Value} {r:Bool} (m:Nat),J9 P (d+1) t=some ks->jG ks xs ys=some r->(Op.equalIn (m+(d+1)) t (valOf P t xs) (valOf P t ys)).run P w = .ok r w:=by
   intro t ks xs ys r m hk hv;simp only [J9] at hk;split at hk
   ·rename_i hu;cases hk;unfold jG at hv;split at hv
    ·rename_i h1;cases h1
    ·rename_i h1;cases h1;simp only [Option.map_eq_some_iff] at hv;obtain ⟨r',h2,rfl⟩:=hv;rename_i a xs b ys;cases xs<;>cases ys<;>simp [jG] at h2;subst h2;simp only [valOf,hu,List.getD_cons_zero,Bool.and_true];exact run_equalIn_bool w _ t _ _ hu
    ·rename_i h1;cases h1
    ·rename_i h1;cases h1
    ·cases hv
   ·rename_i k hu;cases hk;unfold jG at hv;split at hv
    ·rename_i h1;cases h1
    ·rename_i h1;cases h1
    ·rename_i h1;cases h1;split at hv;case isFalse=>cases hv
     case isTrue hkk=>
     subst hkk;simp only [Option.map_eq_some_iff] at hv;obtain ⟨r',h2,rfl⟩:=hv;rename_i k0 a xs b ys;cases xs<;>cases ys<;>simp [jG] at h2;subst h2;simp only [valOf,hu,List.getD_cons_zero,Bool.and_true];exact run_equalIn_int w _ t _ _ _ _ hu
    ·rename_i h1;cases h1
    ·cases hv
   ·rename_i hu;cases hk;unfold jG at hv;split at hv
    ·rename_i h1;cases h1
    ·rename_i h1;cases h1
    ·rename_i h1;cases h1
    ·rename_i h1;cases h1;simp only [Option.map_eq_some_iff] at hv;obtain ⟨r',h2,rfl⟩:=hv;rename_i a xs b ys;cases xs<;>cases ys<;>simp [jG] at h2;subst h2;simp only [valOf,hu,List.getD_cons_zero,Bool.and_true];exact run_equalIn_string w _ t _ _ hu
    ·cases hv
   ·rename_i fs hu;split at hk;case isFalse=>cases hk
    case isTrue hst=>
    have hfo:P.fieldsOf t=fs:=by unfold Program.fieldsOf;rw [hu]
    have:=run_equalIn_struct (P:=P) w (m+d) t xs.toArray ys.toArray (by rw [hfo];exact hu) hst;simp only [valOf,hu];rw [show m+(d+1)=m+d+1 from rfl,this,hfo];exact ih.2 m hk (by simpa using hv)
   ·cases hk
  refine ⟨hK,fun {fs} => ?_⟩;induction fs with
  | nil=>
   intro off ks X Y r m hf hv;simp only [ZI,aK] at hf;subst hf;cases hx:X.toList.drop off<;>cases hy:Y.toList.drop off<;>rw [hx,hy] at hv<;>simp [jG] at hv;subst hv;rfl
  | cons f fs ihf=>
   intro off ks X Y r m hf hv;simp only [ZI] at hf;split at hf;case h_2=>cases hf
   case h_1 i hi=>
   split at hf;case h_2=>cases hf
   case h_1 k1 k2 hk1 hk2=>
   split at hf;case isFalse=>cases hf
   case isTrue hc=>
   cases hf;obtain ⟨hnm,hoff,hsz,hpos⟩:=hc;obtain ⟨r1,r2,g1,g2,rfl⟩:=Bc hv;have hlx:=(adY hv).1;have hly:=(adY hv).2;simp only [List.length_drop,bZ,Array.length_toList] at hlx hly;have hfx:off+k1.length<=X.size:=by omega
   have hfy:off+k1.length<=Y.size:=by omega
   have p1:=ZJ (P:=P) (w:=w) (X:=X) (off:=off) hi hk1 hsz hfx;have p2:=ZJ (P:=P) (w:=w) (X:=Y) (off:=off) hi hk1 hsz hfy;have p3:=hK m hk1 g1;simp only [Op.eqFields,hnm,ne_eq,not_false_eq_true,if_true];rw [hoff,aC p1,aC p2,aC p3];cases r1 with
   | false=>rfl
   | true=>
    simp only [aZ,Bool.false_eq_true,if_false,Bool.true_and];refine ihf m hk2 ?_;rw [hsz];simpa [List.drop_drop] using g2
end
def EM:List A->Option (List Value)
 | []=>some []
 | .v x::as=>(EM as).map (x :: ·)
 | _=>none
theorem Vg:∀vs:List Value,EM (vs.map .v)=some vs
 | []=>rfl
 | v::vs=>by simp [EM,Vg vs]
def SA (ks:List EK) (X Y:(Nat->AV)->Option (List A)) (ne:Bool) (s:Nat->AV):Option (List AV):=
 match X s,Y s with
 | some as,some bs=>match EM as,EM bs with
  | some xs,some ys=>match jG ks xs ys with
   | some r=>some [.v [.v (.bool (if ne then !r else r))] []]
   | none=>none
  | _,_=>none
 | _,_=>none
def ZK (P:Program) (N:Nat) (g:Nat->TT) (o:Oper):Option Stp:=
 match o.dst,o.op with
 | some d,.binOp op t x y _=>match P.underlying t,J9 P 12 t,nU P g t 0 x,nU P g t 1 y with
  | some (.struct _),some ks,some X,some Y=>
   if d<N/\(op = .eql\/op = .neq)/\X.ag=true/\Y.ag=true/\lS X.cs=true/\lS Y.cs=true/\P.eqGuardType P.depth t=false then
    some (Stp.set d (.val false [.d]) (X.rd++Y.rd) (.det (SA ks X.get Y.get (decide (op = .neq)))))
   else none
  | _,_,_,_=>none
 | _,_=>none
theorem adZ {κ:aL} {w:World} {p:Pl} {cs:List CT} {vs:List Value} {as:List A} (hl:vs.length=cs.length) (hd:lS cs=true) (h:ax κ w cs p 0 (fun k=>vs.getD k undef) as):as=vs.map .v:=by
 obtain ⟨h1,_⟩:=Qe hd h;simp only [Nat.zero_add] at h1;have hvs:(List.range cs.length).map (fun k=>vs.getD k undef)=vs:=by
  apply List.ext_getElem
  ·simp [hl]
  ·intro k hk hk';simp [bJ,aO hk']
 rw [hvs] at h1;exact h1
theorem aix {x:Value} {vs:List Value} (h:cellsOf true x=some vs):x = .agg vs.toArray:=by
 cases x<;>simp [cellsOf] at h;subst h;simp
theorem aiy {P:Program} {N:Nat} {g:Nat->TT} {o:Oper} {S:Stp} (h:ZK P N g o=some S):dh P N o g S:=by
 unfold ZK at h;split at h;case h_2=>cases h
 case h_1 d op t x y u hd ho=>
 split at h;case h_2=>cases h
 case h_1 fs ks X Y hu hk hX hY=>
 split at h;case isFalse=>cases h
 case isTrue hc=>
 cases h;obtain ⟨hdN,hop,hxa,hya,hxd,hyd,hgt⟩:=hc;intro ac κ0 κ w0 w tg sv s a v next Q hN hR hL hv hcont;simp only [Stp.set,Eff.rel,SA] at hv;split at hv;case h_2=>cases hv
 case h_1 as bs has hbs=>
 split at hv;case h_2=>cases hv
 case h_1 xs ys hxs hys=>
 split at hv;case h_2=>cases hv
 case h_1 r hr=>
 cases hv;obtain ⟨vs,a1,a2,a3,_⟩:=nV hR hL hX has;obtain ⟨ws,b1,b2,b3,_⟩:=nV hR hL hY hbs;have e1:=adZ a2 hxd a3;have e2:=adZ b2 hyd b3;rw [e1,Vg] at hxs;rw [e2,Vg] at hys;cases hxs;cases hys;rw [hxa] at a1;rw [hya] at b1;have va:=aix a1;have vb:=aix b1;have heq:=(anw (P:=P) (w:=w) (d:=12)).1 (10000-12) hk hr;simp only [valOf,hu] at heq;refine gp hd hN hdN (w':=w) (x:=.bool (if decide (op = .neq) then !r else r)) ?_ (R9 hR hdN rfl (Grows.refl w)) hcont;unfold execOp;rw [ho];simp only;refine bT ?_;rw [va,vb,aC (run_eqGuard_agg (P:=P) w op t x y _ _ hgt)];rcases hop with rfl|rfl
 ·rw [run_eql_struct,heq];rfl
 ·rw [run_neq_struct,heq];rfl
def bytesOf:List (List A)->Option (List Int)
 | []=>some []
 | [.v (.int .u8 n)]::xs=>(bytesOf xs).map (n :: ·)
 | _=>none
def ZL (ns:List Int):ByteArray:=ns.foldl (fun r n=>r.push (UInt8.ofNat n.toNat)) ByteArray.empty
def ZM (t:Nat) (s:Nat->AV):Option (List AV):=
 match oZ t s with
 | some (xs,_)=>match bytesOf xs with
  | some ns=>some [.v [.v (.string (ZL ns))] []]
  | none=>none
 | none=>none
def Vh (P:Program) (N:Nat) (g:Nat->TT) (hint:Bool) (o:Oper):Option Stp:=
 if hint then match o.dst,o.op with
  | some d,.slice ty (.tmp t) lo hi none=>match P.underlying ty,g t,J8 g lo,J8 g hi with
   | some (.slice et),.val false [.sl (.own pin) e],some L,some H=>match P.info? et with
    | some i=>if d<N/\t<N/\i.size=e.length/\CT.mens [t] [.sl (.own pin) e]=false/\(lo=none\/CT.nowns e=true) then
      some (Stp.mv d [t] (.val false [.sl (.own none) e]) [t] (.det (EL t L H))) else none
    | none=>none
   | _,_,_,_=>none
  | _,_=>none
 else none
theorem afZ {P:Program} {N:Nat} {g:Nat->TT} {hint:Bool} {o:Oper} {S:Stp} (h:Vh P N g hint o=some S):dh P N o g S:=by
 unfold Vh at h;split at h;case isFalse=>cases h
 split at h;case h_2=>cases h
 case h_1 d ty t lo hi hd ho=>
 split at h;case h_2=>cases h
 case h_1 et pin e L H hty hT hLo hHi=>
 split at h;case h_2=>cases h
 case h_1 i hi'=>
 split at h;case isFalse=>cases h
 case isTrue hc=>
 obtain ⟨hdN,htN,hsz,hm,hpre⟩:=hc;cases h;intro ac κ0 κ w0 w tg sv s a v next Q hN hR hL hv hcont;simp only [Stp.mv,Eff.rel,EL] at hv;split at hv;case h_2=>cases hv
 case h_1 xs is hxs=>
 split at hv;case h_2=>cases hv
 case h_1 l h hl hh=>
 split at hv;case isFalse=>cases hv
 case isTrue hb=>
 cases hv;have hst:=vU hxs;obtain ⟨e1,e2⟩:=hL.at hT (by simp);have h1:=hR.tr t;rw [e1] at h1;simp only [TR] at h1;obtain ⟨as,vs,g1,g2,g3,_,g5⟩:=h1;rw [e2,hst] at g1;cases g1;have:=iN g2;subst this;have g5':=g5;simp only [ax] at g5;obtain ⟨hrc,_⟩:=g5;simp only [RC] at hrc;obtain ⟨ao,cap,hx,hle,hcase⟩:=hrc;simp only [List.getD_cons_zero] at hx;have hlen:((xs.drop l).take (h-l)).length=h-l:=by rw [List.length_take,List.length_drop];omega
 have hev:a.eval (.tmp t) = .slice ao xs.length cap:=hx;have hrun:=WK (P:=P) (t:=ty) (e:=et) (i:=i) (ao:=ao) (len:=xs.length) (cap:=cap) (lo:=lo.map a.eval) (hi:=hi.map a.eval) (l:=l) (h:=h) (w:=w) hty hi' (FQ hR hL hLo hl) (FQ hR hL hHi hh) hb.1 (by omega);have hne:t≠FB:=Nat.ne_of_lt (Nat.lt_of_lt_of_le htN hR.nle);have hnf:FB∉[t]:=fun hm=>hne (List.mem_singleton.1 hm).symm
 refine qW hd hN hdN (w':=w) (x:=.slice (if cap=l then ao else ao.map (·.add (l*i.size))) (h-l:Nat) (cap-l)) ?_ (yz (f:=fun _ k=>some [k]) (nb:=none) hR hdN hnf (Grows.refl w) (fun _ _ h=>by cases h) rfl ?_) hcont
 ·unfold execOp;rw [ho];simp only;refine bT ?_;rw [hev];simpa using hrun
 ·simp only [TR,bB];refine ⟨_,[_],rfl,rfl,rfl,dR rfl,?_⟩;simp only [ax,RC,List.getD_cons_zero,hlen];refine ⟨⟨_,_,rfl,by omega,?_⟩,trivial⟩;rcases hcase with ⟨rfl,rfl⟩|⟨b,off,rfl,hbs,hκ,hw,he⟩
  ·left;have:l=0:=by omega
   subst this;simp
  ·right;have hκ':aT κ (nJ [t] d fun _ k=>some [k]) none b=some (d,[0]):=by
    simp only [Pl.at,List.nil_append] at hκ;simp [aT,hκ,nJ]
   have hro:∀S,(∀m,m∈[t]->m∉S)->∀b,aV κ w S b->aV (aT κ (nJ [t] d fun _ k=>some [k]) none) w S b/\Same w w b:=fun S hS b hb=>jP (Grows.refl w) afI (fun _ _ h=>by cases h) hS b hb
   have hse:CT.allSs (fun S=>∀m,m∈[t]->m∉S) e:=by
    refine dA (fun S hS=>hS) ?_;simpa [CT.mens,CT.men] using hm
   by_cases hcl:cap=l
   ·rw [if_pos hcl];have hz:h-l=0:=by omega
    refine ⟨b,off,rfl,hbs,by simpa [Pl.at] using hκ',fun q q1 q2 => ?_,?_⟩
    ·rw [hcl] at q2;simp at q2;omega
    ·rw [hz];simp [bN]
   ·rw [if_neg hcl];refine ⟨b,off+l*i.size,by simp only [Option.map_some];rw [uh],hbs,by simpa [Pl.at] using hκ',?_,?_⟩
    ·rw [hsz];refine hw.sub (by omega) ?_;have:l*e.length+(cap-l)*e.length=cap*e.length:=by rw [<-Nat.add_mul];congr 1;omega
     omega
    ·rw [hsz];by_cases hl0:l=0
     ·subst hl0;have h5:=FP (l:=h-0) he;have h6:=FF (f:=id) (κ':=aT κ (nJ [t] d fun _ k=>some [k]) none) (w':=w) (p':=Pl.at (d,[]) 0) hro hse (fun b q hb=>⟨?_,Same.refl w b⟩) h5
      ·rw [fq] at h6;simpa using h6
      ·simp only [Pl.at,List.nil_append,List.singleton_append] at hb ⊢;simp [aT,hb,nJ]
     ·have hno:CT.nowns e=true:=by
       rcases hpre with hp|hp
       ·exfalso;rw [hp] at hLo;simp only [J8,aK] at hLo;subst hLo;simp only [vW,aK] at hl;exact hl0 hl.symm
       ·exact hp
      have h5:=FP (l:=h-l) (Qk (l:=l) he);rw [Nat.zero_add] at h5;have h6:=J7 (p':=Pl.at (d,[]) 0) (j':=0) (get':=fun j=>cellD w b (off+l*e.length+j)) hno (fun q _=>by
       show cellD w b _=cellD w b _
       congr 1;omega) h5
      exact P9 hro hno hse h6
end Go.Fw
namespace Go.Fw
def xq (r:Nat) (P:List Nat) (base n:Nat) (srcs:List Nat) (p:Pl):Option Pl:=
 if p.1=r then (if (List.range n).any (fun k=>(P++[base+k]).isPrefixOf p.2) then none else some p)
 else if p.1∈srcs then match p.2 with
  | k::q=>some (r,P++(base+k)::q)
  | []=>none
 else some p
theorem aqn {r base n:Nat} {P:List Nat} {srcs:List Nat}:∀r' q p,xq r P base n srcs (r',q)=some p->r'∉r::srcs->p=(r',q):=by
 intro r' q p h hr;simp only [List.mem_cons,not_or] at hr;simp only [xq,hr.1,hr.2,if_false] at h;cases h;rfl
theorem FR {r base n:Nat} {P q:List Nat} {srcs:List Nat} (h:∀k,k<n->¬P++[base+k] <+: q):xq r P base n srcs (r,q)=some (r,q):=by
 simp only [xq,if_true];rw [if_neg];simp only [List.any_eq_true,List.mem_range,not_exists,not_and];intro k hk hh;exact h k hk (List.isPrefixOf_iff_prefix.1 hh)
section
variable {ac:Nat->Nat->Value} {κ0 κ:aL} {w0 w w':World} {N:Nat} {tg:Nat->TT} {sv:Nat->AV} {tm:Nat->Value}
theorem ale (h:R ac κ0 w0 κ w N tg sv tm) {r:Nat} (hrN:r<N) {cs e:List CT} {sk:Sk} {is S:List Nat} {B O off:Nat} (ht:(tg r).cts=some cs) {ra row:List A} (hs:sv r = .v ra [])
  (hp:EC κ w tg tm r sk is S B O) (hsk:sk≠[]) (he:eG true cs sk=some e) (hl:bF ra sk is=some row) {srcs:List Nat} (hsf:FB∉srcs) (hsr:r∉srcs) {t:Nat} {cv:List CT} {vs:List Value} {as:List A}
  (hv:Part κ w srcs t cv vs as) (hn:off+cv.length<=e.length) (hle:CT.les cv ((e.drop off).take cv.length)=true) (hm:CT.mens (r::srcs) cs=false) (hmv:CT.mens (r::srcs) cv=false) (htr:t∈srcs\/t=r\/True) :
  Wrb w B (O+off) (O+off+vs.length) /\
  R ac κ0 w0 (aT κ (xq r (bD [] 0 sk is).1 ((bD [] 0 sk is).2+off) cv.length srcs) none) (bv w B (O+off) vs) N (upd (fun u=>if u∈srcs then .dead else (tg u).kill (r::srcs) (r::srcs)) r (tg r))
   (upd sv r (.v (iX ra sk is (splice row off as)) [])) tm:=by
 have hvl:=hv.len;have hroot:=h.root ht hs;obtain ⟨b0,o,g1,hκB,hW,hrow⟩:=yx (bo:=(rb (tg r) (tm r)).map fun b=>(b,0)) hsk hroot he hl;have ha:=hp.addr;simp only [eO] at ha;simp only [Nat.zero_add] at g1;rw [ha] at g1;simp only [aK,Prod.mk.injEq] at g1;obtain ⟨rfl,rfl⟩:=g1;have his:is≠[]:=by
  rintro rfl;cases sk with
  | nil=>exact hsk rfl
  | cons s sk=>cases s;simp [bF] at hl
 have hPne:(bD [] 0 sk is).1≠[]:=by simp [aid (sk:=sk) (is:=is) (p:=[]) (j:=0) hsk his]
 generalize hP:(bD [] 0 sk is).1=P at *
 generalize hj:(bD [] 0 sk is).2=j at *
 have hfacts:=je vs w B (o+j+off);have hsz:(bv w B (o+j+off) vs).heap.size=w.heap.size:=hfacts.1;have hcol:∀b p,κ b=some p->aT κ (xq r P (j+off) cv.length srcs) none b=xq r P (j+off) cv.length srcs p:=fun b p hb=>mD (fun _ _ h=>by cases h) h.col hb
 have hWn:Wrb w B (o+j+off) (o+j+off+vs.length):=hW.sub (by omega) (by omega);refine ⟨hWn,?_⟩;have hneB:∀S,(∀m,m∈r::srcs->m∉S)->∀b,aV κ w S b->b≠B:=by
  rintro S hS b hb rfl;exact hS r (by simp) (hb.2 _ _ hκB).1
 have hro:∀S,(∀m,m∈r::srcs->m∉S)->∀b,aV κ w S b->aV (aT κ (xq r P (j+off) cv.length srcs) none) (bv w B (o+j+off) vs) S b/\Same w (bv w B (o+j+off) vs) b:=
  fun S hS b hb=>by
   have h1:=jP (F:=xq r P (j+off) cv.length srcs) (nb:=none) (Grows.refl w) aqn (fun _ _ h=>by cases h) hS b hb;exact ⟨⟨by rw [hsz];exact h1.1.1,h1.1.2⟩,bY (hneB S hS b hb)⟩
 have hκB':aT κ (xq r P (j+off) cv.length srcs) none B=κ B:=by
  rw [hcol B _ hκB,hκB];refine FR fun k hk hh => ?_
  have:=hh.length_le;rw [bZ,List.length_singleton] at this;omega
 -- the value,moved
 have hval:ax (aT κ (xq r P (j+off) cv.length srcs) none) (bv w B (o+j+off) vs) cv (r,P) (j+off) (fun k=>vs.getD (k-(j+off)) undef) as:=by
  by_cases hts:t∈srcs
  ·have hne:t≠r:=by rintro rfl;exact hsr hts
   have:=dN (f:=id) (P:=fun S=>∀m,m∈r::srcs->m∉S) (κ':=aT κ (xq r P (j+off) cv.length srcs) none) (w':=bv w B (o+j+off) vs) (p':=(r,P)) (j':=j+off) (get':=fun k=>vs.getD (k-(j+off)) undef) hro
    (dA (fun S hS=>hS) hmv) (fun i hi b q hb=>⟨?_,bY ?_⟩) (fun i hi=>by simp) hv.row
   ·rwa [fq] at this
   ·rw [hcol b _ hb];simp [xq,hne,hts]
   ·rintro rfl;rw [hκB] at hb;simp only [aK,Prod.mk.injEq] at hb;exact hne hb.1.symm
  ·exact h_ (P:=fun S=>∀m,m∈r::srcs->m∉S) hro (hv.own.resolve_left hts) (dA (fun S hS=>hS) hmv) (fun i hi=>by simp) hv.row
 have hme:=vR hm he;have hlen:=bR hrow;have hlas:=bR hv.row;have hrow':ax (aT κ (xq r P (j+off) cv.length srcs) none) (bv w B (o+j+off) vs) e (r,P) j (fun k=>cellD (bv w B (o+j+off) vs) B (o+k)) (splice row off as):=by
  refine jK (by rw [iM (by omega)];exact hlen) fun k c a hc ha => ?_
  rw [jQ (by omega)] at ha;have hk:=(aS hc).1;by_cases hin:off<=k/\k<off+cv.length
  ·rw [if_neg (by omega),if_pos (by omega)] at ha;have hh:=eu (qY hle hval) (k:=k-off) (c:=c) (a:=a) (by rw [List.getElem?_take_of_lt (by omega),List.getElem?_drop,show off+(k-off)=k from by omega];exact hc) ha;have hcell:=u7 (w:=w) (b:=B) (o:=o+j+off) (vs:=vs) hWn (k-off) (by omega);rw [show j+off+(k-off)=j+k from by omega] at hh;rw [show o+j+off+(k-off)=o+(j+k) from by omega] at hcell;rw [hcell];have e2:vs.getD (j+k-(j+off)) undef=vs[k-off]'(by omega):=by
    rw [show j+k-(j+off)=k-off from by omega];simp [bJ,aO (show k-off<vs.length by omega)]
   simp only [e2] at hh;first
    | exact hh
    | (rw [bJ,aO (by omega)];exact hh)
  ·have ha':row[k]?=some a:=by
    by_cases h1:k<off
    ·rwa [if_pos h1] at ha
    ·rw [if_neg h1,if_neg (by omega)] at ha;exact ha
   have h0:=eu hrow hc ha';have hcell:cellD (bv w B (o+j+off) vs) B (o+(j+k))=cellD w B (o+(j+k)):=by
    unfold cellD;rw [eQ,if_neg];rintro ⟨_,h1,h2⟩;exact hin ⟨by omega,by omega⟩
   rw [hcell];refine qj (ug (fun S hS b hb=>hro S hS b hb) (oV hme hc)) (fun b q hb=>⟨?_,bY ?_⟩) h0
   ·rw [hcol b _ hb,hb];refine FR fun m hm' hpre => ?_
    simp only [Pl.at] at hpre;rw [List.append_assoc] at hpre;have:=jL (p:=P) (q:=q) (x:=j+off+m) (y:=j+k) (by simpa using hpre);exact hin ⟨by omega,by omega⟩
   ·rintro rfl;rw [hκB] at hb;simp [Pl.at] at hb
 have hup:∀get,(fun k=>get (0+k))=rg w (tg r) (tm r)->ax κ w cs (r,[]) 0 get ra ->
   ax (aT κ (xq r P (j+off) cv.length srcs) none) (bv w B (o+j+off) vs) cs (r,[]) 0 get (iX ra sk is (splice row off as)):=fun get hget hroot'=>by
  refine Ez (bo:=(rb (tg r) (tm r)).map fun b=>(b,0)) hsk hroot' he hl (by rw [hget];exact ha) (dA (fun S hS b hb=>hro S hS b hb) hm)
   (fun b q hb hbB hnp=>⟨?_,bY hbB⟩) (fun hb=>by rw [hsz];exact hb) hκB'
   (fun o' y ho' hy=>⟨by rw [eQ,if_neg (by rintro ⟨_,h1,h2⟩;exact ho' ⟨by omega,by omega⟩)];exact hy,hfacts.2.2.2.2.2 _ _⟩) (jN hW) (fun o' ho' => ?_)
  ·rw [hcol b _ hb,hb];refine FR fun k hk hpre => ?_
   rw [hP,hj] at hnp;exact hnp (off+k) (by omega) (by rw [<-Nat.add_assoc];exact hpre)
  ·rw [hj] at ho';have:o'=o:=by omega
   subst this;rw [hP,hj];exact hrow'
 refine nS (mods:=r::srcs) (M:=r::srcs) h (by have:=h.nle;simp only [List.mem_cons,not_or];exact ⟨by omega,hsf⟩) hro (fun b r' q hr' hb => ?_) (fun u hu => ?_) (fun u hu => ?_) (fun u _=>rfl) (fun u hu => ?_) (fun u hu => ?_) (fun b hb => ?_) ?_
 ·simp at hr';refine ⟨?_,bY ?_⟩
  ·rw [hcol b _ hb,hb];simp [xq,hr']
  ·rintro rfl;rw [hκB] at hb;cases hb;exact hr'.1 rfl
 ·simp at hu;left;simp only [upd,hu.1,hu.2,if_false]
 ·simp at hu;simp [upd,hu]
 ·by_cases hur:u=r
  ·subst hur;rw [bB];have h1:=h.tr u;cases hT:tg u with
   | val ag cs'=>
    rw [hT] at h1 ht;simp only [TT.cts,aK] at ht;subst ht;simp only [TR,bB] at h1 ⊢;obtain ⟨as',vs',k1,k2,k3,k4,k5⟩:=h1;rw [hs] at k1;cases k1;have hrg:rg w (tg u) (tm u)=fun k=>vs'.getD k undef:=by rw [hT];funext k;simp [rg,k2]
    exact ⟨_,vs',rfl,k2,k3,k4,hup _ (by rw [hrg];funext k;simp) k5⟩
   | box cs'=>
    rw [hT] at h1 ht;simp only [TT.cts,aK] at ht;subst ht;simp only [TR,bB] at h1 ⊢;obtain ⟨as',b,k1,k2,k3,k4,k5,k6,k7⟩:=h1;rw [hs] at k1;cases k1;have hbB:b≠B:=by
     rintro rfl;rw [k4] at hκB;simp only [aK,Prod.mk.injEq,true_and] at hκB;exact hPne hκB.symm
    have hsame:=bY (w:=w) (o:=o+j+off) (vs:=vs) hbB;have hrg:rg w (tg u) (tm u)=cellD w b:=by rw [hT];funext k;simp [rg,k2]
    have hu':=hup (cellD w b) (by rw [hrg];funext k;simp) k7;have hcd:∀i,i<cs'.length->cellD (bv w B (o+j+off) vs) b i=cellD w b i:=fun i hi=>hsame.cD k5.rdb (Nat.zero_le _) hi
    refine ⟨_,b,rfl,k2,by rw [hsz];exact k3,?_,jN k5,fun k j' c e' hk=>by rw [hcd k (aS hk).1];exact k6 k j' c e' hk,
     jo (fun i _ hi=>hcd i (by simpa using hi)) hu'⟩
    rw [hcol b _ k4];refine FR fun k hk hpre => ?_
    have:=hpre.length_le;rw [bZ,List.length_singleton,List.length_nil] at this;omega
   | dead=>rw [hT] at ht;simp [TT.cts] at ht
   | alias=>rw [hT] at ht;simp [TT.cts] at ht
   | ptr=>rw [hT] at ht;simp [TT.cts] at ht
   | tup=>rw [hT] at ht;simp [TT.cts] at ht
  ·simp [hur] at hu;simp [upd,hur,hu,TR]
 ·have hne':u≠r:=by omega
  simp only [upd,hne',if_false,h.out u hu,TT.kill];split<;>rfl
 ·rw [hsz] at hb;have:=h.col b hb;simp [aT,this]
 ·exact ⟨by rw [hsz];exact h.fr.size,fun b hb h0=>⟨by have:=(h.fr.kept b hb h0).1;simp [aT,this],by
   have hbB:b≠B:=by rintro rfl;rw [(h.fr.kept _ hb h0).1] at hκB;cases hκB
   rw [hfacts.2.2.2.2.1 b hbB];exact (h.fr.kept b hb h0).2⟩,by rw [hfacts.2.1];exact h.fr.os,by rw [hfacts.2.2.1];exact h.fr.out,by rw [hfacts.2.2.2.1];exact h.fr.tape⟩
end
def J_ (P:Program) (N:Nat) (g:Nat->TT) (o:Oper):Option Stp:=
 match o.dst,o.op with
 | none,.store t p x=>match Zk g p,nU P g t 0 x,P.info? t with
  | some X,some V,some i=>match (g X.r).cts with
   | some cs=>match eG true cs X.sk with
    | some e=>
     if X.r<N/\V.cs.length=i.size/\X.off+V.cs.length<=e.length/\CT.lives V.cs=true/\X.sk≠[]/\X.r∉bU V/\CT.les V.cs ((e.drop X.off).take V.cs.length)=true/\CT.mens (X.r::bU V) cs=false/\CT.mens (X.r::bU V) V.cs=false/\CT.mens (bU V) V.cs=false then
      some ⟨(X.r,g X.r)::(bU V).map (fun t=>(t,.dead)),fun T=>T.kill (X.r::bU V) (X.r::bU V),X.r::(X.rd++V.rd),.det (mF X V)⟩
     else none
    | none=>none
   | none=>none
  | _,_,_=>none
 | _,_=>none
theorem ZN {P:Program} {N:Nat} {g:Nat->TT} {o:Oper} {S:Stp} (h:J_ P N g o=some S):dh P N o g S:=by
 unfold J_ at h;split at h;case h_2=>cases h
 case h_1 t p x hd ho=>
 split at h;case h_2=>cases h
 case h_1 X V i hX hV hi=>
 split at h;case h_2=>cases h
 case h_1 cs hcs=>
 split at h;case h_2=>cases h
 case h_1 e he=>
 split at h;case isFalse=>cases h
 case isTrue hc=>
 obtain ⟨hrN,hsz,hfit,hlv,hsk,hrs,hle,hmr,hmv2,hmv⟩:=hc;cases h;intro ac κ0 κ w0 w tg sv s a v next Q hN hR hL hv hcont;simp only [Eff.rel,mF] at hv;split at hv;case h_2=>cases hv
 case h_1 is ra as hidx hra has=>
 split at hv;case h_2=>cases hv
 case h_1 row hrow=>
 cases hv;obtain ⟨B,O,hp,hev⟩:=JZ hR hL hX hidx;obtain ⟨hcs',hsv⟩:=vT hL hcs;obtain ⟨ra',hra'⟩:=hR.sv_root hcs';obtain ⟨is',hs'⟩:=bG hra;rw [hsv,hs'] at hra';cases hra';have hsr:sv X.r = .v ra []:=by rw [hsv,hs']
 obtain ⟨vs,h1,h2,h3⟩:=EF hR hL hV has (srcs:=bU V) (fun ho=>by simp [bU,ho]) hmv;obtain ⟨_,_,_,_,_,hfb,_⟩:=nV hR hL hV has;have hne:g X.r≠.dead:=fun hg=>by rw [hg] at hcs;simp [TT.cts] at hcs
 obtain ⟨e1,e2⟩:=hL.at rfl hne;obtain ⟨hwr,hR'⟩:=ale hR hrN hcs' hsr hp hsk he hrow (srcs:=bU V) (by unfold bU;split<;>simp;exact fun he=>hfb he.symm) hrs h2 (off:=X.off) hfit hle hmr hmv2 (.inr (.inr trivial));refine Qa (w':=bv w B (O+X.off) vs) ?_ (hcont undef _ _ _ (upd sv X.r (.v (iX ra X.sk is (splice row X.off as)) [])) (by rw [hd,FM];exact hR') (fun u => ?_) (fun u => ?_))
 ·unfold execOp;rw [ho];simp only;have hcells:=ul h1;have hlen:=h2.len;have hfl:=Zl hlen fun k hk=>by
   have:=Qf hlv h2.row k hk;simpa using this
  have:=Cm (P:=P) (t:=t) (i:=i) (b:=B) (o:=O+X.off) (v:=a.eval x) (w:=w) hi (by rw [<-Array.length_toList,hcells,hlen,hsz]) (by rw [hcells];exact hfl) (by rw [<-hsz,<-hlen];exact hwr);rw [hev,aC this,hcells];rfl
 ·show _=ay _ ((X.r,g X.r)::(bU V).map fun t=>(t,TT.dead)) u;simp only [ay,upd,JY,e1]
 ·show _=ay sv ((((X.r,g X.r)::(bU V).map fun t=>(t,TT.dead)).map (·.1)).zip [_]) u;simp [ay,upd]
end Go.Fw
namespace Go.Fw
theorem Oz {ac:Nat->Nat->Value} {cs:List CT} {f:Nat->Value} (hn:CT.nowns cs=true):mi ac cs f:=by
 intro k j c e hc;have:=nV.nowns_nth hn hc;simp [CT.nown] at this
section
variable {ac:Nat->Nat->Value} {κ0 κ:aL} {w0 w w':World} {N:Nat} {tg:Nat->TT} {sv:Nat->AV} {tm:Nat->Value}
theorem aoK (h:R ac κ0 w0 κ w N tg sv tm) {d t:Nat} (hd:d<N) {ws:List (Bool × Nat)} {cs:List CT} (ht:tg t = .tup ws cs)
  {off n:Nat} (hn:off+n<=cs.length) {g:Bool} {x:Value} {as:List A} (hs:sv t = .v as []) (hno:CT.nowns ((cs.drop off).take n)=true)
  (hx:∀xs vs,tm t = .tuple xs->oK ws xs.toList=some vs->cellsOf g x=some ((vs.drop off).take n)) :
  R ac κ0 w0 (aT κ (fw d) none) w N (g_ tg d (.val g ((cs.drop off).take n))) (upd sv d (.v ((as.drop off).take n) [])) (upd tm d x):=by
 refine jO h hd (Grows.refl w) (fun _ _ h=>by cases h) ?_;have h1:=h.tr t;rw [ht] at h1;simp only [TR,bB] at h1 ⊢;obtain ⟨as',xs,vs,g1,g2,g3,g4,g5⟩:=h1;rw [hs] at g1;cases g1;refine ⟨_,_,rfl,hx xs vs g2 g3,by simp;omega,Oz hno,h_ (P:=fun _=>True) (j:=off) (get:=fun k=>vs.getD k undef) (fun S _ b hb=>jw (Grows.refl w) (fun _ _ h=>by cases h) S b hb) hno (fI (fun _=>trivial) _) (fun i hi => ?_) (by simpa using jv n (jr off g5))⟩;have hi':i<n:=by simp at hi;omega
 simp only [bJ];rw [Nat.zero_add,List.getElem?_take_of_lt hi',List.getElem?_drop]
theorem aiz {cs:List CT} {off n:Nat} {f:Nat->Value} (h:mi ac cs f):mi ac (iE off n cs) f:=by
 intro k j c e hc;rw [qm] at hc;cases h0:cs[k]? with
 | none=>simp [h0] at hc
 | some c0=>
  simp only [h0,Option.map_some,aK] at hc;split at hc
  ·cases c0<;>simp [ql] at hc
  ·subst hc;exact h k j c e h0
theorem aoL (h:R ac κ0 w0 κ w N tg sv tm) {d t:Nat} (hd:d<N) (htN:t<N) (hdt:d≠t) {cs:List CT} (ht:tg t = .val true cs) (hm:CT.mens [t] cs=false)
  {off n:Nat} (hn:off+n<=cs.length) {g:Bool} {x:Value} {as:List A} (hs:sv t = .v as []) (hnp:eU ((cs.drop off).take n)=true)
  (hx:∀vs,cellsOf true (tm t)=some vs->cellsOf g x=some ((vs.drop off).take n)) :
  R ac κ0 w0 (aT κ (iB t off n d) none) w N (upd (upd (fun u=>(tg u).kill [d,t] [t]) t (.val true (iE off n cs))) d (.val g ((cs.drop off).take n))) (upd sv d (.v ((as.drop off).take n) [])) (upd tm d x):=by
 have h1:=h.tr t;rw [ht] at h1;simp only [TR] at h1;obtain ⟨as',vs,g1,g2,g3,g4,g5⟩:=h1;rw [hs] at g1;cases g1;have hvs:∀i,i<n->((vs.drop off).take n).getD i undef=vs.getD (off+i) undef:=by
  intro i hi;simp only [bJ];rw [List.getElem?_take_of_lt hi,List.getElem?_drop]
 refine Zg h hd hdt g5 hm hn (hx vs g2) (by simp;omega) hvs (dR hnp) (fun κ' hκ hdead _ => ?_) htN;simp only [TR,upd_ne _ _ _ (Ne.symm hdt)];exact ⟨_,vs,hs,g2,by rw [gq];exact g3,aiz g4,hdead⟩
end
def Vi (N:Nat) (g:Nat->TT) (o:Oper):Option Stp:=
 match o.dst,o.op with
 | some d,.extract (.tmp t) i=>match g t with
  | .tup ws cs=>match ws[i]? with
   | some (ag,n)=>if d<N/\woff ws i+n<=cs.length/\CT.nowns ((cs.drop (woff ws i)).take n)=true then
     some (Stp.set d (.val ag ((cs.drop (woff ws i)).take n)) [t] (.det (nY t (woff ws i) n))) else none
   | none=>none
  | _=>none
 | _,_=>none
theorem af0 {P:Program} {N:Nat} {g:Nat->TT} {o:Oper} {S:Stp} (h:Vi N g o=some S):dh P N o g S:=by
 unfold Vi at h;split at h;case h_2=>cases h
 case h_1 d t i hd ho=>
 split at h;case h_2=>cases h
 case h_1 ws cs hT=>
 split at h;case h_2=>cases h
 case h_1 ag n hw=>
 split at h;case isFalse=>cases h
 case isTrue hc=>
 obtain ⟨hdN,hn,hno⟩:=hc;cases h;intro ac κ0 κ w0 w tg sv s a v next Q hN hR hL hv hcont;simp only [Stp.set,Eff.rel,nY,Option.map_eq_some_iff] at hv;obtain ⟨as,hg,rfl⟩:=hv;obtain ⟨e1,e2⟩:=hL.at hT (by simp);have h1:=hR.tr t;rw [e1] at h1;simp only [TR] at h1;obtain ⟨as',xs,vs,g1,g2,g3,g4,g5⟩:=h1;obtain ⟨is,hs⟩:=bG hg;rw [e2,hs] at g1;cases g1;obtain ⟨x,hx,hcx,_⟩:=J6 g3 hw;refine gp (d:=d) (x:=x) (w':=w) hd hN hdN ?_ (aoK hR hdN e1 hn (g:=ag) (x:=x) (as:=as) (by rw [e2,hs]) hno (fun xs' vs' k1 k2=>by
  rw [g2] at k1;cases k1
  rw [g3] at k2;cases k2
  exact hcx)) hcont
 unfold execOp;rw [ho];simp only;refine bT ?_;have hev:a.eval (.tmp t)=gm a t:=rfl;rw [hev,g2];unfold Instr.extract;simp only;have hx':xs[i]?=some x:=by simpa using hx
 rw [hx'];rfl
theorem aiA {P:Program} {st:TypeId} {fs:Array Field} {f:Nat} {fi:Field} {i:TypeInfo} {ag:Bool} {x:Value} {vs:List Value} {w:World} (hu:P.underlying st=some (.struct fs)) (hf:fs[f]?=some fi)
  (hi:P.info? fi.type=some i) (hg:qP P fi.type=some ag) (hx:cellsOf true x=some vs) (h1:ag=true\/i.size=1) (hn:fi.offset+i.size<=vs.length) (hsc:∀y,vs[fi.offset]?=some y->ag=false->∀us,y≠.agg us/\y≠.tuple us) :
  ∃y,(Instr.field st x f).run P w = .ok y w/\cellsOf ag y=some ((vs.drop fi.offset).take i.size):=by
 cases x<;>simp [cellsOf] at hx;rename_i cells;unfold Instr.field;rw [aC (run_underlying hu w)];simp only [hf];rw [aC (show (asAgg (.agg cells)).run P w = .ok cells w from rfl)];unfold part;rw [aC (Bb hg w)];cases ag with
 | true=>
  simp only [if_true];rw [aC (run_sizeOf hi w)];refine ⟨_,rfl,?_⟩;simp only [cellsOf,aK];rw [<-hx];simp [Array.toList_extract]
 | false=>
  simp only [Bool.false_eq_true,if_false];have hs:i.size=1:=by simpa using h1
  have hl:fi.offset<vs.length:=by omega
  have hc:cells[fi.offset]?=some (vs[fi.offset]):=by
   rw [<-Array.getElem?_toList];simp only [hx];exact aO hl
  rw [hc];refine ⟨_,rfl,?_⟩;rw [hs,List.drop_eq_getElem_cons hl];have:=hsc _ (aO hl) rfl;cases hv:vs[fi.offset] with
  | agg us=>exact absurd hv (this us).1
  | tuple us=>exact absurd hv (this us).2
  | _=>simp [cellsOf]
def TT.vcs:TT->Option (List CT)
 | .val true cs=>some cs
 | .alias true cs _ _ _ _=>some cs
 | _=>none
def TT.isV:TT->Bool
 | .val _ _=>true
 | _=>false
def ZO (P:Program) (N:Nat) (g:Nat->TT) (o:Oper):Option Stp:=
 match o.dst,o.op with
 | some d,.field st (.tmp t) f=>match P.underlying st with
  | some (.struct fs)=>match fs[f]? with
   | some fi=>match P.info? fi.type,qP P fi.type,(g t).vcs with
    | some i,some ag,some cs=>
     if d<N/\t<N/\fi.offset+i.size<=cs.length/\(ag=true\/i.size=1)/\CT.lives ((cs.drop fi.offset).take i.size)=true then
      if CT.nowns ((cs.drop fi.offset).take i.size)=true then some (Stp.set d (.val ag ((cs.drop fi.offset).take i.size)) [t] (.det (nY t fi.offset i.size)))
      else if (g t).isV=true/\d≠t/\CT.mens [t] cs=false/\eU ((cs.drop fi.offset).take i.size)=true then
       some ⟨[(d,.val ag ((cs.drop fi.offset).take i.size)),(t,.val true (iE fi.offset i.size cs))],fun T=>T.kill [d,t] [t],[t],.det (nY t fi.offset i.size)⟩
      else none
     else none
    | _,_,_=>none
   | none=>none
  | _=>none
 | _,_=>none
theorem aoM {ac:Nat->Nat->Value} {κ:aL} {w:World} {tg:Nat->TT} {sv:Nat->AV} {tm:Nat->Value} {t:Nat} {T:TT} {cs:List CT} (hc:T.vcs=some cs) (h:TR ac κ w tg sv tm t T) :
  ∃as is vs,sv t = .v as is/\cellsOf true (tm t)=some vs/\vs.length=cs.length/\ax κ w cs (t,[]) 0 (fun k=>vs.getD k undef) as:=by
 cases T with
 | val ag cs'=>
  cases ag<;>simp only [TT.vcs,aK,reduceCtorEq] at hc;subst hc;simp only [TR] at h;obtain ⟨as,vs,g1,g2,g3,g4,g5⟩:=h;exact ⟨as,_,vs,g1,g2,g3,g5⟩
 | alias ag cs' r sk off S=>
  cases ag<;>simp only [TT.vcs,aK,reduceCtorEq] at hc;subst hc;simp only [TR] at h;obtain ⟨as,is,vs,gf,ra,row,g1,g2,g3,g4,g5,_⟩:=h;exact ⟨as,is,vs,g1,g2,g3,g5⟩
 | _=>simp [TT.vcs] at hc
theorem aiB {P:Program} {N:Nat} {g:Nat->TT} {o:Oper} {S:Stp} (h:ZO P N g o=some S):dh P N o g S:=by
 unfold ZO at h;split at h;case h_2=>cases h
 case h_1 d st t f hd ho=>
 split at h;case h_2=>cases h
 case h_1 fs hu=>
 split at h;case h_2=>cases h
 case h_1 fi hf=>
 split at h;case h_2=>cases h
 case h_1 i ag cs hi hg hT=>
 split at h;case isFalse=>cases h
 case isTrue hc=>
 obtain ⟨hdN,htN,hn,h1,hlv⟩:=hc;have key:∀{ac:Nat->Nat->Value} {κ0 κ:aL} {w0 w:World} {tg:Nat->TT} {sv s:Nat->AV} {a:Act} {as:List A},R ac κ0 w0 κ w N tg sv (gm a)->Le g s tg sv->fK t s=some as ->
   ∃is vs x,tg t=g t/\sv t = .v as is/\cellsOf true (gm a t)=some vs/\(execOp a.eval o).run P w = .ok (.value x) w/\cellsOf ag x=some ((vs.drop fi.offset).take i.size)/\vs.length=cs.length/\ax κ w cs (t,[]) 0 (fun k=>vs.getD k undef) as:=by
  intro ac κ0 κ w0 w tg sv s a as hR hL hgA;obtain ⟨e1,e2⟩:=hL.at (T:=g t) rfl (by intro h;rw [h] at hT;simp [TT.vcs] at hT);have h2:=hR.tr t;rw [e1] at h2;obtain ⟨as',is,vs,g1,g2,g3,g4⟩:=aoM hT h2;obtain ⟨is',hs⟩:=bG hgA;rw [e2,hs] at g1;cases g1;have hsub:=jv i.size (jr fi.offset g4);obtain ⟨y,hy1,hy2⟩:=aiA (w:=w) hu hf hi hg g2 h1 (by omega) (fun y hy hag=>by
   have hs1:i.size=1:=by rcases h1 with h1|h1<;>simp_all
   have hl1:((cs.drop fi.offset).take i.size).length=1:=by simp;omega
   have:=eu (k:=0) hsub (aO (by omega)) (aO (by rw [bR hsub];omega))
   have hfl:=EE (mr hlv (aO (by omega))) this
   have:=NE hfl
   simpa [bJ,hy] using this)
  refine ⟨is,vs,y,e1,by rw [e2,hs],g2,?_,hy2,g3,g4⟩;unfold execOp;rw [ho];simp only;exact bT hy1
 split at h;case isTrue hno=>
  cases h;intro ac κ0 κ w0 w tg sv s a v next Q hN hR hL hv hcont;simp only [Stp.set,Eff.rel,nY,Option.map_eq_some_iff] at hv;obtain ⟨as,hgA,rfl⟩:=hv;obtain ⟨is,vs,x,e1,hs,hvs,hrun,hcx,hl,hrc⟩:=key hR hL hgA;refine gp (d:=d) (x:=x) (w':=w) hd hN hdN hrun (κ':=aT κ (fw d) none) ?_ hcont;refine jO hR hdN (Grows.refl w) (fun _ _ h=>by cases h) ?_;simp only [TR,bB];refine ⟨_,_,rfl,hcx,by simp;omega,Oz hno,h_ (P:=fun _=>True) (j:=fi.offset) (get:=fun k=>vs.getD k undef) (fun S _ b hb=>jw (Grows.refl w) (fun _ _ h=>by cases h) S b hb) hno (fI (fun _=>trivial) _) (fun k hk => ?_) (by simpa using jv i.size (jr fi.offset hrc))⟩;have hk':k<i.size:=by simp at hk;omega
  simp only [bJ];rw [Nat.zero_add,List.getElem?_take_of_lt hk',List.getElem?_drop]
 case isFalse hno=>
  split at h;case isFalse=>cases h
  case isTrue hc2=>
  obtain ⟨hV,hdt,hm,hnp⟩:=hc2;cases h;intro ac κ0 κ w0 w tg sv s a v next Q hN hR hL hv hcont;simp only [Eff.rel,nY,Option.map_eq_some_iff] at hv;obtain ⟨as,hgA,rfl⟩:=hv;obtain ⟨is,vs,x,e1,hs,hvs,hrun,hcx,hl,hrc⟩:=key hR hL hgA;have hval:g t = .val true cs:=by
   cases hgt:g t with
   | val ag' cs'=>rw [hgt] at hT;cases ag'<;>simp [TT.vcs] at hT;rw [hT]
   | _=>rw [hgt] at hV;simp [TT.isV] at hV
  have his:is=[]:=by
   have h2:=hR.tr t;rw [e1,hval] at h2;simp only [TR] at h2;obtain ⟨_,_,g1,_⟩:=h2;rw [hs] at g1;cases g1;rfl
  subst his;have hR':=aoL hR hdN htN hdt (by rw [e1,hval]) hm hn (g:=ag) (x:=x) (as:=as) hs hnp (fun vs' k1=>by rw [hvs] at k1;cases k1;exact hcx);refine FK (w':=w) (x:=x) hrun (hcont x w _ _ _ (by rw [hd,lu (a:=a) (by rw [hN];exact hdN)];exact hR') (fun u => ?_) (fun u => ?_))
  ·simp only [ay,upd]
  ·simp [ay,upd]
end Go.Fw
namespace Go.Fw
mutual
def CT.frz:CT->CT
 | .d=>.d
 | .sl (.own _) e=>.sl (.ro []) (CT.frzs e)
 | .sl m e=>.sl m (CT.frzs e)
def CT.frzs:List CT->List CT
 | []=>[]
 | c::cs=>c.frz::CT.frzs cs
end
theorem gK:∀cs:List CT,(CT.frzs cs).length=cs.length
 | []=>rfl
 | c::cs=>by simp [CT.frzs,gK cs]
section
variable {κ κ':aL} {w:World} {t m:Nat}
mutual
theorem aoN (hro:∀S b,aV κ w S b->aV κ' w S b) (hk:∀b q,κ b=some (t,q)->m<=q.length->κ' b=none):∀{c:CT} {p:Pl} {x:Value} {a:A},p.1=t->m<=p.2.length->RC κ w c p x a->RC κ' w c.frz p x a
 | .d,_,_,.v _,_,_,h=>by simpa only [CT.frz,RC] using h
 | .d,_,_,.s _,_,_,h=>by simp [RC] at h
 | .sl (.own k) e,p,x,.s xs,hp,hm,h=>by
  simp only [CT.frz,RC,gK] at h ⊢;obtain ⟨ao,cap,h1,h2,h3⟩:=h;refine ⟨ao,cap,h1,h2,?_⟩;rcases h3 with ⟨rfl,rfl⟩|⟨b,o,g1,g2,g3,g4,g5⟩
  ·left;exact List.length_eq_zero_iff.1 (by omega)
  ·right;have hb:κ' b=none:=hk b p.2 (by rw [g3,<-hp]) hm;refine ⟨b,o,g1,⟨g2,fun r q hq=>by rw [hb] at hq;cases hq⟩,fun o' h1 h2'=>(g4 o' h1 ?_).1,EN hro hk hp (by omega) g5⟩;have:=Nat.mul_le_mul_right e.length h2;omega
 | .sl (.ro S) e,p,x,.s xs,hp,hm,h=>by
  simp only [CT.frz,RC,gK] at h ⊢;obtain ⟨ao,cap,h1,h2,h3⟩:=h;refine ⟨ao,cap,h1,h2,?_⟩;rcases h3 with h3|⟨b,o,g1,g2,g3,g4⟩
  ·exact .inl h3
  ·exact .inr ⟨b,o,g1,hro S b g2,g3,EN hro hk hp (by omega) g4⟩
 | .sl .dead e,p,x,.s xs,_,_,h=>by simp [CT.frz,RC]
 | .sl .dead e,p,x,.v _,_,_,h=>by simp [CT.frz,RC]
 | .sl (.own k) e,p,x,.v _,_,_,h=>by simp [RC] at h
 | .sl (.ro S) e,p,x,.v _,_,_,h=>by simp [RC] at h
theorem Vj (hro:∀S b,aV κ w S b->aV κ' w S b) (hk:∀b q,κ b=some (t,q)->m<=q.length->κ' b=none):∀{cs:List CT} {p:Pl} {j:Nat} {get:Nat->Value} {as:List A},p.1=t->m<=p.2.length+1->ax κ w cs p j get as->ax κ' w (CT.frzs cs) p j get as
 | [],_,_,_,[],_,_,_=>by simp [CT.frzs,ax]
 | [],_,_,_,_::_,_,_,h=>by simp [ax] at h
 | c::cs,p,j,get,[],_,_,h=>by simp [ax] at h
 | c::cs,p,j,get,a::as,hp,hm,h=>by
  simp only [CT.frzs,ax] at h ⊢;exact ⟨aoN hro hk (by simpa [Pl.at] using hp) (by simpa [Pl.at] using hm) h.1,Vj hro hk hp hm h.2⟩
theorem EN (hro:∀S b,aV κ w S b->aV κ' w S b) (hk:∀b q,κ b=some (t,q)->m<=q.length->κ' b=none):∀{e:List CT} {p:Pl} {j:Nat} {get:Nat->Value} {xs:List (List A)},p.1=t->m<=p.2.length+1->bN κ w e p j get xs->bN κ' w (CT.frzs e) p j get xs
 | _,_,_,_,[],_,_,_=>by simp [bN]
 | e,p,j,get,x::xs,hp,hm,h=>by
  simp only [bN,gK] at h ⊢;exact ⟨Vj hro hk hp hm h.1,EN hro hk hp hm h.2⟩
end
end
def CT.inn:CT->CT
 | .sl (.own k) e=>.sl (.own k) (CT.frzs e)
 | c=>c.frz
def uq (t m:Nat) (κ:aL):aL:=fun b=>
 match κ b with
 | some (r,q)=>if r=t/\m<=q.length then none else some (r,q)
 | none=>none
theorem Xe {t m:Nat} {κ:aL} {b:Nat} (h:κ b=none):uq t m κ b=none:=by simp [uq,h]
theorem Ka {t m:Nat} {κ:aL} {b r:Nat} {q:List Nat} (h:uq t m κ b=some (r,q)):κ b=some (r,q):=by
 unfold uq at h;split at h
 ·rename_i hk;split at h
  ·cases h
  ·rw [hk];exact h
 ·cases h
theorem ad1 {t m:Nat} {κ:aL} {b r:Nat} {q:List Nat} (h:κ b=some (r,q)) (hr:r≠t\/q.length<m):uq t m κ b=some (r,q):=by
 unfold uq;rw [h];simp only;rw [if_neg (by rintro ⟨h1,h2⟩;rcases hr with hr|hr<;>first|exact hr h1|omega)]
theorem anx {κ:aL} {w:World} {t:Nat}:∀{cs:List CT} {j:Nat} {get:Nat->Value} {as:List A},ax κ w cs (t,[]) j get as->ax (uq t 2 κ) w (cs.map CT.inn) (t,[]) j get as:=by
 have hro:∀S b,aV κ w S b->aV (uq t 2 κ) w S b:=fun S b hb=>⟨hb.1,fun r q hq=>hb.2 r q (Ka hq)⟩
 have hk:∀b q,κ b=some (t,q)->2<=q.length->uq t 2 κ b=none:=fun b q hb hq=>by simp [uq,hb,hq]
 intro cs;induction cs with
 | nil=>intro j get as h;cases as<;>simp [ax] at h ⊢
 | cons c cs ih=>
  intro j get as h;cases as with
  | nil=>simp [ax] at h
  | cons a as=>
   simp only [ax,List.map_cons] at h ⊢;refine ⟨?_,ih h.2⟩;have h1:=h.1;cases c with
   | d=>cases a<;>simp only [CT.inn,CT.frz,RC] at h1 ⊢;exact h1
   | sl md e=>
    cases a with
    | v y=>cases md<;>simp [CT.inn,CT.frz,RC] at h1 ⊢
    | s xs=>
     cases md with
     | own k=>
      simp only [CT.inn,RC,gK] at h1 ⊢;obtain ⟨ao,cap,g1,g2,g3⟩:=h1;refine ⟨ao,cap,g1,g2,?_⟩;rcases g3 with g3|⟨b,o,k1,k2,k3,k4,k5⟩
      ·exact .inl g3
      ·exact .inr ⟨b,o,k1,k2,ad1 k3 (.inr (by simp)),k4,EN hro hk (by simp [Pl.at]) (by simp [Pl.at]) k5⟩
     | ro S=>
      simp only [CT.inn,CT.frz,RC,gK] at h1 ⊢;obtain ⟨ao,cap,g1,g2,g3⟩:=h1;refine ⟨ao,cap,g1,g2,?_⟩;rcases g3 with g3|⟨b,o,k1,k2,k3,k4⟩
      ·exact .inl g3
      ·exact .inr ⟨b,o,k1,hro S b k2,k3,EN hro hk (by simp [Pl.at]) (by simp [Pl.at]) k4⟩
     | dead=>simp [CT.inn,CT.frz,RC]
def CT.deep:CT->Bool
 | .sl (.own _) e=>!CT.nowns e
 | _=>false
def ut (cs:List CT):Nat × List CT:=if cs.any CT.deep then (2,cs.map CT.inn) else (1,CT.frzs cs)
theorem alf (cs:List CT):(ut cs).2.length=cs.length:=by
 unfold ut;split<;>simp [gK]
theorem alg {κ:aL} {w:World} {t:Nat} {cs:List CT} {get:Nat->Value} {as:List A} (h:ax κ w cs (t,[]) 0 get as):ax (uq t (ut cs).1 κ) w (ut cs).2 (t,[]) 0 get as:=by
 unfold ut;split
 ·exact anx h
 ·exact Vj (t:=t) (m:=1) (fun S b hb=>⟨hb.1,fun r q hq=>hb.2 r q (Ka hq)⟩) (fun b q hb hq=>by simp [uq,hb,hq]) rfl (by simp) h
def SB (N:Nat) (g:Nat->TT) (t:Nat):Option Stp:=
 match g t with
 | .val ag cs=>if t<N/\eU (ut cs).2=true then some ⟨[(t,.val ag (ut cs).2)],fun T=>T.kill [t] [],[t],.det (eY t)⟩ else none
 | _=>none
theorem aqo {ac:Nat->Nat->Value} {κ0 κ:aL} {w0 w:World} {N:Nat} {tg:Nat->TT} {sv:Nat->AV} {tm:Nat->Value} (h:R ac κ0 w0 κ w N tg sv tm) {t:Nat} {ag:Bool} {cs:List CT} (ht:tg t = .val ag cs) (htN:t<N) (hnp:eU (ut cs).2=true) :
  R ac κ0 w0 (uq t (ut cs).1 κ) w N (ay (fun u=>(tg u).kill [t] []) [(t,.val ag (ut cs).2)]) sv tm:=by
 refine nS (mods:=[t]) (M:=[]) h ?_ (fun S hS b hb=>⟨⟨hb.1,fun r q hq=>hb.2 r q (Ka hq)⟩,Same.refl w b⟩) (fun b r q hr hb => ?_) (fun r hr => ?_) (fun _ _=>rfl) (fun _ _=>rfl) (fun u hu => ?_) (fun u hu => ?_) (fun b hb=>Xe (h.col b hb)) ?_
 ·have:=h.nle;simp only [List.mem_singleton];omega
 ·simp only [List.mem_singleton] at hr;exact ⟨by rw [hb];exact ad1 hb (.inl hr),Same.refl w b⟩
 ·simp only [List.mem_singleton] at hr;left;simp [ay,hr]
 ·simp only [List.mem_singleton] at hu;subst hu;have h1:=h.tr u;rw [ht] at h1;simp only [TR] at h1;obtain ⟨as,vs,g1,g2,g3,_,g5⟩:=h1;simp only [ay,if_true,TR];exact ⟨as,vs,g1,g2,by rw [g3,alf],dR hnp,alg g5⟩
 ·have:u≠t:=by omega
  simp only [ay,if_neg this,h.out u hu];rfl
 ·refine ⟨h.fr.size,fun b hb h0 => ?_,h.fr.os,h.fr.out,h.fr.tape⟩;have:=h.fr.kept b hb h0;exact ⟨Xe this.1,this.2⟩
theorem aoO {P:Program} {N:Nat} {g:Nat->TT} {o:Oper} {t:Nat} {S1 S2:Stp} (h1:SB N g t=some S1) (h2:dh P N o (wM g S1) S2) (hv:∀s v,S2.eff.rel P s v->v.length<=S2.up.length) :
  dh P N o g (Stp.take t S1 S2):=by
 intro ac κ0 κ w0 w tg sv s a v next Q hN hR hL hv0 hcont;simp only [Stp.take] at hv0;obtain ⟨s1,hs1,hrel⟩:=Eff.pre_rel hv0;simp only [NP] at hs1;split at hs1;case h_2=>cases hs1
 case h_1 as has=>
 cases hs1;unfold SB at h1;split at h1;case h_2=>cases h1
 case h_1 ag cs hT=>
 split at h1;case isFalse=>cases h1
 case isTrue hc=>
 cases h1;obtain ⟨e1,e2⟩:=hL.at hT (by simp);have hR':=aqo hR e1 hc.1 hc.2;have hst:s t = .v as []:=by
  have h5:=hR.tr t;rw [e1] at h5;simp only [TR] at h5;obtain ⟨as',vs,k1,_⟩:=h5;rw [e2] at k1;obtain ⟨is,his⟩:=bG has;rw [k1] at his;cases his;exact k1
 have hup:upd s t (.v as [])=s:=by
  funext u;unfold upd;split
  ·rename_i hu;rw [hu,hst]
  ·rfl
 rw [hup] at hrel;have hL':Le (wM g ⟨[(t,.val ag (ut cs).2)],fun T=>T.kill [t] [],[t],.det (eY t)⟩) s (ay (fun u=>(tg u).kill [t] []) [(t,.val ag (ut cs).2)]) sv:=by
  intro u;simp only [wM,ay];by_cases hut:u=t
  ·right;subst hut;exact ⟨by simp,e2.symm⟩
  ·simp only [if_neg hut];rcases hL u with h3|⟨h3,h4⟩
   ·left;rw [h3];rfl
   ·right;exact ⟨by rw [h3],h4⟩
 refine h2 ac κ0 _ w0 w _ sv s a v next Q hN hR' hL' hrel fun x w' κ'' tg'' sv'' hR'' htg'' hsv'' => ?_
 have hvl:=hv _ _ hrel;refine hcont x w' κ'' tg'' sv'' hR'' (fun u => ?_) (fun u => ?_)
 ·rw [htg'' u];simp only [Stp.take];rw [yK];by_cases hu:u∈S2.up.map (·.1)
  ·exact bq.upds_in hu
  ·rw [bq.upds_out hu,bq.upds_out hu];simp only [ay,List.map_cons,List.map_nil];split<;>rfl
 ·rw [hsv'' u];simp only [Stp.take];have hz:((S2.up++[(t,TT.val ag (ut cs).2)].map fun p=>(p.1,S2.kl p.2)).map (·.1)).zip v=(S2.up.map (·.1)).zip v:=by
   rw [List.map_append];exact EJ (by simpa using hvl)
  rw [hz]
end Go.Fw
namespace Go.Fw
def Kb (a b:Option Stp):Option Stp:=
 match a with
 | some x=>some x
 | none=>b
theorem jS {a b:Option Stp} {S:Stp} (h:Kb a b=some S):a=some S\/b=some S:=by
 unfold Kb at h;split at h
 ·exact .inl h
 ·exact .inr h
def Eff.cap (n:Nat):Eff->Eff
 | .det f=>.det fun s=>match f s with
  | some v=>if v.length<=n/\0<v.length then some v else none
  | none=>none
 | .call K sg args post=>.call K sg args fun res outs s=>match post res outs s with
  | some v=>if v.length<=n/\0<v.length then some v else none
  | none=>none
theorem Eff.cap_rel {P:Program} {n:Nat} {E:Eff} {s:Nat->AV} {v:List AV} (h:(E.cap n).rel P s v):E.rel P s v/\v.length<=n/\0<v.length:=by
 cases E with
 | det f=>
  simp only [Eff.cap,Eff.rel] at h ⊢;split at h
  ·rename_i v' hv;split at h
   ·cases h;exact ⟨hv,by assumption⟩
   ·cases h
  ·cases h
 | call K sg args post=>
  simp only [Eff.cap,Eff.rel] at h ⊢;obtain ⟨as,res,outs,h1,h2,h3⟩:=h;split at h3
  ·rename_i v' hv;split at h3
   ·cases h3;exact ⟨⟨as,res,outs,h1,h2,hv⟩,by assumption⟩
   ·cases h3
  ·cases h3
def Stp.cap (S:Stp):Stp:=⟨S.up,S.kl,S.rd,S.eff.cap S.up.length⟩
theorem aoP {P:Program} {N:Nat} {o:Oper} {g:Nat->TT} {S:Stp} (h:dh P N o g S):dh P N o g S.cap:=by
 intro ac κ0 κ w0 w tg sv s a v next Q hN hR hL hv hcont;exact h ac κ0 κ w0 w tg sv s a v next Q hN hR hL (Eff.cap_rel hv).1 hcont
def alh (P:Program) (sigs:FuncId->Option aJ) (N:Nat) (g:Nat->TT) (hint:Bool) (o:Oper):Option Stp:=
 match o.op with
 | .move _=>uk P N g hint o
 | .assign _=>Kb (ZH N g hint o) (uk P N g hint o)
 | .nilCheck _=>uk P N g hint o
 | .alloc _=>Sm P N g o
 | .box _ _=>Sm P N g o
 | .build _ _=>Qi P N g o
 | .buildSlice _ _ _=>Zr P N g o
 | .load _ _=>U8 P N g o
 | .store _ _ _=>Kb (Qg P N g o) (J_ P N g o)
 | .fieldAddr _ _ _=>Qb P N g o
 | .indexAddr _ _ _=>Qc P N g o
 | .makeSlice _ _ _=>Vd P N g o
 | .extract _ _=>Kb (Vi N g o) (ZE N g o)
 | .field _ _ _=>Kb (ZO P N g o) (qo P N g o)
 | .slice _ _ _ _ _=>Kb (Vh P N g hint o) (Kb (ZF P N g o) (qo P N g o))
 | .binOp _ _ _ _ _=>Kb (ZK P N g o) (qo P N g o)
 | .convert _ _ _=>qo P N g o
 | .call c=>match c.callee with
  | .builtin .append=>J4 P N g o
  | .builtin _=>Kb (Zm P N g o) (qo P N g o)
  | _=>Kb (Ve P sigs N g o) (Qj P sigs N g o)
 | _=>qo P N g o
theorem anz {P:Program} {sigs:FuncId->Option aJ} {N:Nat} {g:Nat->TT} {hint:Bool} {o:Oper} {S:Stp} (h:alh P sigs N g hint o=some S):dh P N o g S:=by
 unfold alh at h;split at h<;>first
  | exact Si h
  | exact aih h
  | exact acx h
  | exact aik h
  | exact afQ h
  | exact acu h
  | exact acv h
  | exact afV h
  | exact qX h
  | (split at h
     ·exact Zn h
     ·rcases jS h with h|h
      ·exact aii h
      ·exact qX h
     ·rcases jS h with h|h
      ·exact afX h
      ·exact acy h)
  | (rcases jS h with h|h
     ·exact af0 h
     ·exact ait h)
  | (rcases jS h with h|h
     ·exact aiB h
     ·exact qX h)
  | (rcases jS h with h|h
     ·exact aiw h
     ·exact Si h)
  | (rcases jS h with h|h
     ·exact acw h
     ·exact ZN h)
  | (rcases jS h with h|h
     ·exact aiy h
     ·exact qX h)
  | (rcases jS h with h|h
     ·exact afZ h
     ·rcases jS h with h|h
      ·exact aiv h
      ·exact qX h)
def TT.isDead:TT->Bool
 | .dead=>true
 | _=>false
theorem Bd {T:TT} (h:T.isDead=true):T = .dead:=by cases T<;>simp [TT.isDead] at h;rfl
def Vk (P:Program) (sigs:FuncId->Option aJ) (N:Nat) (hint:Bool) (o:Oper):(Nat->TT)->List Nat->Option Stp
 | g,[]=>match alh P sigs N g hint o with
  | some S=>if S.kl .dead |>.isDead then some S.cap else none
  | none=>none
 | g,t::ts=>match qp N g t with
  | some S1=>match Vk P sigs N hint o (wM g S1) ts with
   | some S2=>if (S2.up.map (·.1)).contains t then some (Stp.take t S1 S2) else none
   | none=>none
  | none=>match SB N g t with
   | some S1=>match Vk P sigs N hint o (wM g S1) ts with
    | some S2=>some (Stp.take t S1 S2)
    | none=>none
   | none=>none
theorem ad2 {S1:Stp} {N:Nat} {g:Nat->TT} {t:Nat} (h1:qp N g t=some S1):S1.kl .dead = .dead:=by
 unfold qp at h1;split at h1;case h_2=>cases h1
 case h_1 ag cs0 r off S0 hT=>
 split at h1
 ·split at h1
  ·cases h1;rfl
  ·cases h1
 ·split at h1
  ·cases h1;rfl
  ·cases h1
 ·cases h1
theorem Vl {P:Program} {sigs:FuncId->Option aJ} {N:Nat} {hint:Bool} {o:Oper}:∀{ts:List Nat} {g:Nat->TT} {S:Stp},Vk P sigs N hint o g ts=some S ->
  dh P N o g S/\S.kl .dead = .dead/\∀s v,S.eff.rel P s v->v.length<=S.up.length/\0<v.length
 | [],g,S,h=>by
  simp only [Vk] at h
  split at h
  case h_2=>cases h
  case h_1 S' hS=>
  split at h
  case isFalse=>cases h
  case isTrue hd=>
  cases h
  exact ⟨aoP (anz hS),Bd hd,fun s v hv=>(Eff.cap_rel hv).2⟩
 | t::ts,g,S,h=>by
  simp only [Vk] at h
  split at h
  case h_2=>
   split at h
   case h_2=>cases h
   case h_1 S1 h1=>
   split at h
   case h_2=>cases h
   case h_1 S2 h2=>
   cases h
   obtain ⟨k1,k2,k3⟩:=Vl h2
   have hk:S1.kl .dead = .dead:=by
    unfold SB at h1;split at h1
    ·split at h1
     ·cases h1;rfl
     ·cases h1
    ·cases h1
   refine ⟨aoO h1 k1 (fun s v hv=>(k3 s v hv).1),by simp only [Stp.take];rw [hk,k2],fun s v hv => ?_⟩
   obtain ⟨s1,_,hr⟩:=Eff.pre_rel hv
   have:=k3 _ _ hr
   simp only [Stp.take,bZ]
   omega
  case h_1 S1 h1=>
  split at h
  case h_2=>cases h
  case h_1 S2 h2=>
  split at h
  case isFalse=>cases h
  case isTrue hc=>
  cases h
  obtain ⟨k1,k2,k3⟩:=Vl h2
  refine ⟨anu h1 (ad2 h1) k2 k1 (by simpa using hc) (fun s v hv=>(k3 s v hv).1),by simp only [Stp.take];rw [ad2 h1,k2],fun s v hv => ?_⟩
  obtain ⟨s1,_,hr⟩:=Eff.pre_rel hv
  have:=k3 _ _ hr
  simp only [Stp.take,bZ]
  omega
end Go.Fw
namespace Go.Fw
mutual
def CT.pure:CT->Bool
 | .d=>true
 | .sl (.own none) e=>CT.pures e
 | .sl _ _=>false
def CT.pures:List CT->Bool
 | []=>true
 | c::cs=>c.pure&&CT.pures cs
end
end Go.Fw
namespace Go.Fw
section
variable {κ κ':aL} {w:World} {t:Nat} {p0:List Nat}
mutual
theorem ad3 (hro:∀S b,aV κ w S b->aV κ' w S b) (hk:∀b q,κ b=some (t,q)->p0 <+: q->κ' b=none):∀{c:CT} {p:Pl} {x:Value} {a:A},p.1=t->p0 <+: p.2->RC κ w c p x a->RC κ' w c.frz p x a
 | .d,_,_,.v _,_,_,h=>by simpa only [CT.frz,RC] using h
 | .d,_,_,.s _,_,_,h=>by simp [RC] at h
 | .sl (.own k) e,p,x,.s xs,hp,hm,h=>by
  simp only [CT.frz,RC,gK] at h ⊢;obtain ⟨ao,cap,h1,h2,h3⟩:=h;refine ⟨ao,cap,h1,h2,?_⟩;rcases h3 with ⟨rfl,rfl⟩|⟨b,o,g1,g2,g3,g4,g5⟩
  ·left;exact List.length_eq_zero_iff.1 (by omega)
  ·right;have hb:κ' b=none:=hk b p.2 (by rw [g3,<-hp]) hm;refine ⟨b,o,g1,⟨g2,fun r q hq=>by rw [hb] at hq;cases hq⟩,fun o' h1 h2'=>(g4 o' h1 ?_).1,Ql hro hk hp hm g5⟩;have:=Nat.mul_le_mul_right e.length h2;omega
 | .sl (.ro S) e,p,x,.s xs,hp,hm,h=>by
  simp only [CT.frz,RC,gK] at h ⊢;obtain ⟨ao,cap,h1,h2,h3⟩:=h;refine ⟨ao,cap,h1,h2,?_⟩;rcases h3 with h3|⟨b,o,g1,g2,g3,g4⟩
  ·exact .inl h3
  ·exact .inr ⟨b,o,g1,hro S b g2,g3,Ql hro hk hp hm g4⟩
 | .sl .dead e,p,x,.s xs,_,_,h=>by simp [CT.frz,RC]
 | .sl .dead e,p,x,.v _,_,_,h=>by simp [CT.frz,RC]
 | .sl (.own k) e,p,x,.v _,_,_,h=>by simp [RC] at h
 | .sl (.ro S) e,p,x,.v _,_,_,h=>by simp [RC] at h
theorem ZP (hro:∀S b,aV κ w S b->aV κ' w S b) (hk:∀b q,κ b=some (t,q)->p0 <+: q->κ' b=none):∀{cs:List CT} {p:Pl} {j:Nat} {get:Nat->Value} {as:List A},p.1=t->p0 <+: p.2->ax κ w cs p j get as->ax κ' w (CT.frzs cs) p j get as
 | [],_,_,_,[],_,_,_=>by simp [CT.frzs,ax]
 | [],_,_,_,_::_,_,_,h=>by simp [ax] at h
 | c::cs,p,j,get,[],_,_,h=>by simp [ax] at h
 | c::cs,p,j,get,a::as,hp,hm,h=>by
  simp only [CT.frzs,ax] at h ⊢;exact ⟨ad3 hro hk (by simpa [Pl.at] using hp) (hm.trans (by simp [Pl.at])) h.1,ZP hro hk hp hm h.2⟩
theorem Ql (hro:∀S b,aV κ w S b->aV κ' w S b) (hk:∀b q,κ b=some (t,q)->p0 <+: q->κ' b=none):∀{e:List CT} {p:Pl} {j:Nat} {get:Nat->Value} {xs:List (List A)},p.1=t->p0 <+: p.2->bN κ w e p j get xs->bN κ' w (CT.frzs e) p j get xs
 | _,_,_,_,[],_,_,_=>by simp [bN]
 | e,p,j,get,x::xs,hp,hm,h=>by
  simp only [bN,gK] at h ⊢;exact ⟨ZP hro hk hp hm h.1,Ql hro hk hp hm h.2⟩
end
end
def lX:Nat->List CT->List CT
 | 0,c::cs=>c.frz::cs
 | k+1,c::cs=>c::lX k cs
 | _,[]=>[]
theorem Xf:∀(k:Nat) (cs:List CT),(lX k cs).length=cs.length
 | 0,c::cs=>rfl
 | k+1,c::cs=>by simp [lX,Xf k cs]
 | 0,[]=>rfl
 | _+1,[]=>rfl
def yL (t k:Nat) (κ:aL):aL:=fun b=>
 match κ b with
 | some (r,m::q)=>if r=t/\m=k then none else some (r,m::q)
 | x=>x
theorem Xg {t k:Nat} {κ:aL} {b:Nat} (h:κ b=none):yL t k κ b=none:=by simp [yL,h]
theorem Xh {t k:Nat} {κ:aL} {b r:Nat} {q:List Nat} (h:yL t k κ b=some (r,q)):κ b=some (r,q):=by
 unfold yL at h;split at h
 ·rename_i hk;split at h
  ·cases h
  ·rw [hk];exact h
 ·exact h
theorem NQ {t k:Nat} {κ:aL} {b r:Nat} {q:List Nat} (h:κ b=some (r,q)) (hr:r≠t\/∀q',q≠k::q'):yL t k κ b=some (r,q):=by
 unfold yL;split
 ·rename_i r' m q' hk;rw [h] at hk;cases hk;rw [if_neg (by rintro ⟨h1,h2⟩;rcases hr with hr|hr<;>first|exact hr h1|exact hr q' (by rw [h2]))]
 ·exact h
mutual
theorem ZQ {P:List Nat->Prop} (h:∀S,P S):∀c:CT,c.allS P
 | .d=>by simp [CT.allS]
 | .sl (.ro S) e=>by simp only [CT.allS];exact ⟨h S,vX h e⟩
 | .sl (.own _) e=>by simp only [CT.allS];exact vX h e
 | .sl .dead e=>by simp only [CT.allS];exact vX h e
theorem vX {P:List Nat->Prop} (h:∀S,P S):∀cs:List CT,CT.allSs P cs
 | []=>by simp [CT.allSs]
 | c::cs=>by simp only [CT.allSs];exact ⟨ZQ h c,vX h cs⟩
end
theorem Vm {κ:aL} {w:World} {t k0:Nat} (S:List Nat) (b:Nat) (hb:aV κ w S b):aV (yL t k0 κ) w S b:=⟨hb.1,fun r q hq=>hb.2 r q (Xh hq)⟩
theorem anA {κ:aL} {t k0:Nat} (b:Nat) (q:List Nat) (hb:κ b=some (t,q)) (hq:[k0] <+: q):yL t k0 κ b=none:=by
 obtain ⟨q',rfl⟩:=hq;simp [yL,hb]
theorem Xi {κ:aL} {w:World} {t k0:Nat}:∀{cs:List CT} {j k:Nat} {get:Nat->Value} {as:List A},k0=j+k->ax κ w cs (t,[]) j get as->ax (yL t k0 κ) w (lX k cs) (t,[]) j get as
 | [],j,k,get,[],_,_=>by cases k<;>simp [ax,lX]
 | [],j,k,get,_::_,_,h=>by simp [ax] at h
 | c::cs,j,k,get,[],_,h=>by simp [ax] at h
 | c::cs,j,0,get,a::as,hj,h=>by
  simp only [lX,ax] at h ⊢;refine ⟨ad3 Vm anA rfl (by simp [Pl.at,hj]) h.1,?_⟩;refine P8 (vX (fun S b hb=>⟨Vm S b hb,Same.refl w b⟩) cs) (fun i hi b q hb => ?_) (fun _ _=>rfl) h.2;refine ⟨?_,Same.refl w b⟩;rw [hb];exact NQ hb (.inr fun q' hq=>by simp only [List.nil_append,List.cons.injEq] at hq;omega)
 | c::cs,j,k+1,get,a::as,hj,h=>by
  simp only [lX,ax] at h ⊢;refine ⟨?_,Xi (by omega) h.2⟩;refine qj (ZQ (fun S b hb=>⟨Vm S b hb,Same.refl w b⟩) c) (fun b q hb => ?_) h.1;refine ⟨?_,Same.refl w b⟩;rw [hb];exact NQ hb (.inr fun q' hq=>by simp only [Pl.at,List.nil_append,List.cons_append,List.cons.injEq] at hq;omega)
def NR (N:Nat) (g:Nat->TT) (r k:Nat):Option Stp:=
 match g r with
 | .box cs=>if r<N/\eU (lX k cs)=true then some ⟨[(r,.box (lX k cs))],fun T=>T.kill [r] [],[r],.det fun _=>none⟩ else none
 | _=>none
theorem aoQ {ac:Nat->Nat->Value} {κ0 κ:aL} {w0 w:World} {N:Nat} {tg:Nat->TT} {sv:Nat->AV} {tm:Nat->Value} (h:R ac κ0 w0 κ w N tg sv tm) {r k:Nat} {cs:List CT} (ht:tg r = .box cs) (htN:r<N) (hnp:eU (lX k cs)=true) :
  R ac κ0 w0 (yL r k κ) w N (ay (fun u=>(tg u).kill [r] []) [(r,.box (lX k cs))]) sv tm:=by
 refine nS (mods:=[r]) (M:=[]) h ?_ (fun S hS b hb=>⟨⟨hb.1,fun r q hq=>hb.2 r q (Xh hq)⟩,Same.refl w b⟩) (fun b r' q hr hb => ?_) (fun r' hr => ?_) (fun _ _=>rfl) (fun _ _=>rfl) (fun u hu => ?_) (fun u hu => ?_) (fun b hb=>Xg (h.col b hb)) ?_
 ·have:=h.nle;simp only [List.mem_singleton];omega
 ·simp only [List.mem_singleton] at hr;exact ⟨by rw [hb];exact NQ hb (.inl hr),Same.refl w b⟩
 ·simp only [List.mem_singleton] at hr;left;simp [ay,hr]
 ·simp only [List.mem_singleton] at hu;subst hu;have h1:=h.tr u;rw [ht] at h1;simp only [TR] at h1;obtain ⟨as,b,g1,g2,g3,g4,g5,g6,g7⟩:=h1;simp only [ay,if_true,TR];exact ⟨as,b,g1,g2,g3,NQ g4 (.inr fun q' hq=>by cases hq),by rw [Xf];exact g5,dR hnp,Xi (by omega) g7⟩
 ·have:u≠r:=by omega
  simp only [ay,if_neg this,h.out u hu];rfl
 ·refine ⟨h.fr.size,fun b hb h0 => ?_,h.fr.os,h.fr.out,h.fr.tape⟩;have:=h.fr.kept b hb h0;exact ⟨Xg this.1,this.2⟩
def Stp.frzB (r:Nat) (S1 S2:Stp):Stp:=⟨S2.up++S1.up.map (fun p=>(p.1,S2.kl p.2)),fun T=>S2.kl (S1.kl T),r::S2.rd,S2.eff⟩
theorem anB {P:Program} {N:Nat} {g:Nat->TT} {o:Oper} {r k:Nat} {S1 S2:Stp} (h1:NR N g r k=some S1) (h2:dh P N o (wM g S1) S2) (hv:∀s v,S2.eff.rel P s v->v.length<=S2.up.length) :
  dh P N o g (Stp.frzB r S1 S2):=by
 intro ac κ0 κ w0 w tg sv s a v next Q hN hR hL hrel hcont;simp only [Stp.frzB] at hrel;unfold NR at h1;split at h1;case h_2=>cases h1
 case h_1 cs hT=>
 split at h1;case isFalse=>cases h1
 case isTrue hc=>
 cases h1;obtain ⟨e1,e2⟩:=hL.at hT (by simp);have hR':=aoQ (k:=k) hR e1 hc.1 hc.2;have hL':Le (wM g ⟨[(r,.box (lX k cs))],fun T=>T.kill [r] [],[r],.det fun _=>none⟩) s (ay (fun u=>(tg u).kill [r] []) [(r,.box (lX k cs))]) sv:=by
  intro u;simp only [wM,ay];by_cases hut:u=r
  ·right;subst hut;exact ⟨by simp,e2.symm⟩
  ·simp only [if_neg hut];rcases hL u with h3|⟨h3,h4⟩
   ·left;rw [h3];rfl
   ·right;exact ⟨by rw [h3],h4⟩
 refine h2 ac κ0 _ w0 w _ sv s a v next Q hN hR' hL' hrel fun x w' κ'' tg'' sv'' hR'' htg'' hsv'' => ?_
 have hvl:=hv _ _ hrel;refine hcont x w' κ'' tg'' sv'' hR'' (fun u => ?_) (fun u => ?_)
 ·rw [htg'' u];simp only [Stp.frzB];rw [yK];by_cases hu:u∈S2.up.map (·.1)
  ·exact bq.upds_in hu
  ·rw [bq.upds_out hu,bq.upds_out hu];simp only [ay,List.map_cons,List.map_nil];split<;>rfl
 ·rw [hsv'' u];simp only [Stp.frzB];have hz:((S2.up++[(r,TT.box (lX k cs))].map fun p=>(p.1,S2.kl p.2)).map (·.1)).zip v=(S2.up.map (·.1)).zip v:=by
   rw [List.map_append];exact EJ (by simpa using hvl)
  rw [hz]
def ZT (P:Program) (sigs:FuncId->Option aJ) (N:Nat) (hint:Bool) (o:Oper):List Nat->(Nat->TT)->List Nat->Option Stp
 | [],g,tk=>Vk P sigs N hint o g tk
 | x::xs,g,tk=>match Nat.ble 4000000000 x with
  | true=>match xs,tk with
   | _,_=>none
  | false=>match NR N g (x % 1000000000 / 1000) (x % 1000) with
   | some S1=>match ZT P sigs N hint o xs (wM g S1) tk with
    | some S2=>some (Stp.frzB (x % 1000000000 / 1000) S1 S2)
    | none=>none
   | none=>none
theorem ad4 {P:Program} {sigs:FuncId->Option aJ} {N:Nat} {hint:Bool} {o:Oper}:∀{xs:List Nat} {g:Nat->TT} {tk:List Nat} {S:Stp},ZT P sigs N hint o xs g tk=some S ->
  dh P N o g S/\S.kl .dead = .dead/\∀s v,S.eff.rel P s v->v.length<=S.up.length/\0<v.length
 | [],g,tk,S,h=>Vl (by simpa only [ZT] using h)
 | x::xs,g,tk,S,h=>by
  simp only [ZT] at h
  split at h
  case h_1=>cases h
  case h_2=>
  split at h
  case h_2=>cases h
  case h_1 S1 h1=>
  split at h
  case h_2=>cases h
  case h_1 S2 h2=>
  cases h
  obtain ⟨k1,k2,k3⟩:=ad4 h2
  have hk:S1.kl .dead = .dead:=by
   unfold NR at h1;split at h1
   ·split at h1
    ·cases h1;rfl
    ·cases h1
   ·cases h1
  refine ⟨anB h1 k1 (fun s v hv=>(k3 s v hv).1),by simp only [Stp.frzB];rw [hk,k2],fun s v hv => ?_⟩
  have:=k3 s v hv
  simp only [Stp.frzB,bZ]
  omega
end Go.Fw
namespace Go.Fw
structure OpR where
 S:Bool->Stp
 cb:(Nat->AV)->Option Bool
 up:List (Nat × TT)
 d:Option Nat
 gd:Option (Nat × Bool)
 g:Bool->Nat->TT
 hide:List Nat
 pk:Option Nat
def mG (rs:List OpR) (i:Nat):List (Nat × TT):=match rs[i]? with
 | some o=>o.up
 | none=>[]
def vY (rs:List OpR) (i:Nat):Option Nat:=match rs[i]? with
 | some o=>o.d
 | none=>none
def bf (rs:List OpR) (bef:Nat->Nat->Bool) (D0:Nat->TT) (s0:Nat->AV) (np:Nat->Bool) (px:Nat->Value) (wl:List Bool) (vl:List (List AV)):bq:=
 ⟨rs.length,mG rs,vY rs,bef,D0,s0,fun i=>wl.getD i false,fun i=>vl.getD i [],np,px⟩
def iC (s:Nat->AV) (t:Nat):Option Bool:=
 match s t with
 | .v [.v (.bool c)] _=>some c
 | _=>none
def jT (rs:List OpR) (wl:List Bool) (s:Nat->AV) (o:OpR):Bool:=
 match o.gd with
 | none=>true
 | some (j,b)=>wl.getD j false&&(match vY rs j with
  | some t=>(match iC s t with
   | some c=>c == b
   | none=>false)
  | none=>false)
def rf (P:Program) (rs:List OpR):List OpR->List Bool->(Nat->AV)->((Nat->AV)->Prop)->Prop
 | [],_,s,K=>K s
 | o::os,wl,s,K=>if jT rs wl s o then ∃b v,o.cb s=some b/\(o.S b).eff.rel P s v/\rf P rs os (wl++[true]) (ay s ((o.up.map (·.1)).zip v)) K
  else rf P rs os (wl++[false]) s K
def allT:Nat->Bool:=fun _=>true
theorem ZU {r r':bq} (h0:r.s0=r'.s0) (L:Nat->Bool):∀k,(∀j,j<k->r.up j=r'.up j/\r.wn j=r'.wn j/\(r.wn j=true->r.vv j=r'.vv j))->r.sL L k=r'.sL L k:=by
 intro k;induction k with
 | zero=>intro _;exact h0
 | succ k ih=>
  intro h;have ih:=ih fun j hj=>h j (by omega)
  obtain ⟨h1,h2,h3⟩:=h k (by omega);simp only [bq.sL,bq.sS,ih,h1,h2];cases hw:r'.wn k with
  | false=>rfl
  | true=>rw [h3 (by rw [h2,hw])]
section
variable {P:Program} {rs:List OpR} {bef:Nat->Nat->Bool} {D0:Nat->TT} {s0:Nat->AV} {np:Nat->Bool} {px:Nat->Value} {K:(Nat->AV)->Prop}
theorem nZ {α:Type} {l m:List α} {j:Nat} {x:α} (h:j<l.length):(l++m).getD j x=l.getD j x:=by
 simp only [bJ,List.getElem?_append_left h]
theorem ad5 (hgd:∀(i:Nat) (o:OpR) (j:Nat) (b:Bool),rs[i]?=some o->o.gd=some (j,b)->j<i):∀{os pre:List OpR} {wl:List Bool} {vl:List (List AV)},rs=pre++os->wl.length=pre.length->vl.length=pre.length ->
  rf P rs os wl ((bf rs bef D0 s0 np px wl vl).sL allT pre.length) K ->
  ∃wl' vl',(∀j,j<pre.length->wl'.getD j false=wl.getD j false/\vl'.getD j []=vl.getD j [])/\K ((bf rs bef D0 s0 np px wl' vl').sL allT rs.length) /\
   ∀i o,pre.length<=i->rs[i]?=some o->wl'.getD i false=jT rs wl' ((bf rs bef D0 s0 np px wl' vl').sL allT i) o /\
    (wl'.getD i false=true->∃b,o.cb ((bf rs bef D0 s0 np px wl' vl').sL allT i)=some b/\(o.S b).eff.rel P ((bf rs bef D0 s0 np px wl' vl').sL allT i) (vl'.getD i []))
 | [],pre,wl,vl,hrs,h1,h2,h=>by
  simp only [List.append_nil] at hrs
  refine ⟨wl,vl,fun j _=>⟨rfl,rfl⟩,?_,fun i o hi ho => ?_⟩
  ·simp only [rf] at h
   rw [show rs.length=pre.length from by rw [hrs]];exact h
  ·have:=(aS ho).1
   rw [hrs] at this;omega
 | o::os,pre,wl,vl,hrs,h1,h2,h=>by
  have ho:rs[pre.length]?=some o:=by rw [hrs];simp
  have hup:mG rs pre.length=o.up:=by unfold mG;rw [ho]
  -- one more
  have step:∀(x:Bool) (v:List AV),rf P rs os (wl++[x]) ((bf rs bef D0 s0 np px (wl++[x]) (vl++[v])).sL allT (pre++[o]).length) K ->
    (x=jT rs wl ((bf rs bef D0 s0 np px wl vl).sL allT pre.length) o)->(x=true->∃b,o.cb ((bf rs bef D0 s0 np px wl vl).sL allT pre.length)=some b/\(o.S b).eff.rel P ((bf rs bef D0 s0 np px wl vl).sL allT pre.length) v) ->
    ∃wl' vl',(∀j,j<pre.length->wl'.getD j false=wl.getD j false/\vl'.getD j []=vl.getD j [])/\K ((bf rs bef D0 s0 np px wl' vl').sL allT rs.length) /\
     ∀i o,pre.length<=i->rs[i]?=some o->wl'.getD i false=jT rs wl' ((bf rs bef D0 s0 np px wl' vl').sL allT i) o /\
      (wl'.getD i false=true->∃b,o.cb ((bf rs bef D0 s0 np px wl' vl').sL allT i)=some b/\(o.S b).eff.rel P ((bf rs bef D0 s0 np px wl' vl').sL allT i) (vl'.getD i [])):=by
   intro x v hW hx hv;obtain ⟨wl',vl',k1,k2,k3⟩:=ad5 hgd (os:=os) (pre:=pre++[o]) (wl:=wl++[x]) (vl:=vl++[v]) (by rw [hrs];simp) (by simp [h1]) (by simp [h2]) hW;have hpre:∀j,j<pre.length->wl'.getD j false=wl.getD j false/\vl'.getD j []=vl.getD j []:=fun j hj=>by
    obtain ⟨g1,g2⟩:=k1 j (by simp;omega);rw [nZ (by omega)] at g1 g2;exact ⟨g1,g2⟩
   refine ⟨wl',vl',hpre,k2,fun i o' hi ho' => ?_⟩;by_cases hii:i=pre.length
   ·subst hii;rw [ho] at ho';cases ho';have hs:(bf rs bef D0 s0 np px wl' vl').sL allT pre.length=(bf rs bef D0 s0 np px wl vl).sL allT pre.length:=ZU (r:=bf rs bef D0 s0 np px wl' vl') (r':=bf rs bef D0 s0 np px wl vl) rfl allT pre.length fun j hj=>⟨rfl,(hpre j hj).1,fun _=>(hpre j hj).2⟩
    obtain ⟨g1,g2⟩:=k1 pre.length (by simp);have e1:(wl++[x]).getD pre.length false=x:=by rw [<-h1];simp [bJ]
    have e2:(vl++[v]).getD pre.length []=v:=by rw [<-h2];simp [bJ]
    rw [e1] at g1;rw [e2] at g2;rw [hs,g1,g2];refine ⟨?_,hv⟩;rw [hx];unfold jT;cases hg:o.gd with
    | none=>rfl
    | some p=>
     obtain ⟨j,b⟩:=p;have:=hgd _ _ _ _ ho hg;simp only;rw [(hpre j this).1]
   ·exact k3 i o' (by simp;omega) ho'
  simp only [rf] at h
  split at h
  ·rename_i hw
   obtain ⟨b,v,hb,hrel,hW⟩:=h
   refine step true v ?_ hw.symm fun _=>⟨b,hb,hrel⟩
   have:(bf rs bef D0 s0 np px (wl++[true]) (vl++[v])).sL allT (pre++[o]).length=ay ((bf rs bef D0 s0 np px wl vl).sL allT pre.length) ((o.up.map (·.1)).zip v):=by
    rw [bZ,List.length_singleton]
    simp only [bq.sL,allT,if_true]
    have hs:(bf rs bef D0 s0 np px (wl++[true]) (vl++[v])).sL allT pre.length=(bf rs bef D0 s0 np px wl vl).sL allT pre.length:=ZU (r:=bf rs bef D0 s0 np px (wl++[true]) (vl++[v])) (r':=bf rs bef D0 s0 np px wl vl) rfl _ pre.length fun j hj=>⟨rfl,nZ (by omega),fun _=>nZ (by omega)⟩
    rw [hs]
    unfold bq.sS
    have e1:(wl++[true]).getD pre.length false=true:=by rw [<-h1];simp [bJ]
    have e2:(vl++[v]).getD pre.length []=v:=by rw [<-h2];simp [bJ]
    simp only [bf,e1,e2,hup,if_true]
   rw [this];exact hW
  ·rename_i hw
   refine step false [] ?_ (by simpa using hw) fun hx=>by cases hx
   have:(bf rs bef D0 s0 np px (wl++[false]) (vl++[[]])).sL allT (pre++[o]).length=(bf rs bef D0 s0 np px wl vl).sL allT pre.length:=by
    rw [bZ,List.length_singleton]
    simp only [bq.sL,allT,if_true]
    have hs:(bf rs bef D0 s0 np px (wl++[false]) (vl++[[]])).sL allT pre.length=(bf rs bef D0 s0 np px wl vl).sL allT pre.length:=ZU (r:=bf rs bef D0 s0 np px (wl++[false]) (vl++[[]])) (r':=bf rs bef D0 s0 np px wl vl) rfl _ pre.length fun j hj=>⟨rfl,nZ (by omega),fun _=>nZ (by omega)⟩
    rw [hs]
    unfold bq.sS
    have e1:(wl++[false]).getD pre.length false=false:=by rw [<-h1];simp [bJ]
    simp only [bf,e1,Bool.false_eq_true,if_false]
   rw [this];exact h
end
end Go.Fw
namespace Go.Fw
def YZ (a b:Sk):Bool:=decide (a=b)
def TT.beq:TT->TT->Bool
 | .dead,.dead=>true
 | .val a c,.val a' c'=>(a == a')&&CT.beqs c c'
 | .alias a c r sk off S,.alias a' c' r' sk' off' S'=>(a == a')&&CT.beqs c c'&&(r == r')&&YZ sk sk'&&(off == off')&&decide (S=S')
 | .box c,.box c'=>CT.beqs c c'
 | .ptr r sk off S,.ptr r' sk' off' S'=>(r == r')&&YZ sk sk'&&(off == off')&&decide (S=S')
 | .tup ws c,.tup ws' c'=>decide (ws=ws')&&CT.beqs c c'
 | _,_=>false
theorem TT.beq_eq:∀{T T':TT},T.beq T'=true->T=T'
 | .dead,T',h=>by cases T'<;>simp [TT.beq] at h;rfl
 | .val a c,T',h=>by
  cases T'<;>simp [TT.beq] at h;rw [h.1,CT.beqs_eq h.2]
 | .alias a c r sk off S,T',h=>by
  cases T'<;>simp [TT.beq,YZ] at h;obtain ⟨⟨⟨⟨⟨h1,h2⟩,h3⟩,h4⟩,h5⟩,h6⟩:=h;rw [h1,CT.beqs_eq h2,h3,h4,h5,h6]
 | .box c,T',h=>by
  cases T'<;>simp [TT.beq] at h;rw [CT.beqs_eq h]
 | .ptr r sk off S,T',h=>by
  cases T'<;>simp [TT.beq,YZ] at h;obtain ⟨⟨⟨h3,h4⟩,h5⟩,h6⟩:=h;rw [h3,h4,h5,h6]
 | .tup ws c,T',h=>by
  cases T'<;>simp [TT.beq] at h;rw [h.1,CT.beqs_eq h.2]
def okg (ch:List (Nat × Bool)):Option (Nat × Bool)->Bool
 | none=>true
 | some p=>ch.contains p
def EO (D0:Nat->TT) (ch:List (Nat × Bool)):List OpR->Nat->TT
 | [],t=>D0 t
 | o::rest,t=>if (o.up.map (·.1)).contains t then (if okg ch o.gd then ay (fun _=>.dead) o.up t else if o.d != some t&&(ay (fun _=>.dead) o.up t).beq (EO D0 ch rest t) then EO D0 ch rest t else .dead) else if o.d == some t then .dead else EO D0 ch rest t
def chR (rs:List OpR):Nat->Option (Nat × Bool)->List (Nat × Bool)
 | 0,_=>[]
 | _+1,none=>[]
 | f+1,some (j,b)=>(j,b)::(match rs[rs.length-1-j]? with
  | some o=>chR rs f o.gd
  | none=>[])
section
variable {D0:Nat->TT} {s0:Nat->AV} {np:Nat->Bool} {px:Nat->Value} {bef:Nat->Nat->Bool} {wl:List Bool} {vl:List (List AV)} {rs:List OpR}
theorem Xj {f:Nat->TT} {l:List (Nat × TT)} {t:Nat} (h:t∈l.map (·.1)):ay f l t=ay (fun _=>.dead) l t:=bq.upds_in h
theorem ZW {ch:List (Nat × Bool)} {L:Nat->Bool}:∀{pre:List OpR} {post:List OpR},rs=pre.reverse++post->(∀j,j<pre.length->L j=true) ->
  (∀j o,j<pre.length->rs[j]?=some o->okg ch o.gd=true->wl.getD j false=true)->∀t,EO D0 ch pre t = .dead\/EO D0 ch pre t=(bf rs bef D0 s0 np px wl vl).dL L pre.length t
 | [],post,hrs,hL,hw,t=>by right;simp [EO,bq.dL,bf]
 | o::pre,post,hrs,hL,hw,t=>by
  have ho:rs[pre.length]?=some o:=by
   rw [hrs];simp
  have hup:mG rs pre.length=o.up:=by unfold mG;rw [ho]
  have hd:vY rs pre.length=o.d:=by unfold vY;rw [ho]
  have ih:=ZW (pre:=pre) (post:=o::post) (ch:=ch) (L:=L) (by rw [hrs];simp) (fun j hj=>hL j (by simp;omega)) (fun j o' hj=>hw j o' (by simp;omega)) t
  simp only [EO,bA,bq.dL]
  rw [hL pre.length (by simp),if_pos rfl]
  have hds:∀f,(bf rs bef D0 s0 np px wl vl).dS pre.length f t=if wl.getD pre.length false then ay f o.up t else if o.d=some t then .dead else f t:=by
   intro f
   unfold bq.dS
   rw [show (bf rs bef D0 s0 np px wl vl).up pre.length=o.up from hup,show (bf rs bef D0 s0 np px wl vl).dst pre.length=o.d from hd]
   by_cases hwl:wl.getD pre.length false=true
   ·rw [if_pos hwl,if_pos (show (bf rs bef D0 s0 np px wl vl).wn pre.length=true from hwl)]
   ·rw [if_neg hwl,if_neg (show ¬(bf rs bef D0 s0 np px wl vl).wn pre.length=true from hwl)]
  rw [hds]
  by_cases hm:(o.up.map (·.1)).contains t=true
  ·rw [if_pos hm]
   by_cases hg:okg ch o.gd=true
   ·rw [if_pos hg,hw pre.length o (by simp) ho hg,if_pos rfl]
    right
    exact (Xj (by simpa using hm)).symm
   ·rw [if_neg hg]
    split
    ·rename_i hc
     simp only [aP,bne_iff_ne,ne_eq] at hc
     have hbe:=TT.beq_eq hc.2
     cases hwl:wl.getD pre.length false with
     | true=>
      right
      rw [if_pos rfl,Xj (by simpa using hm),hbe]
     | false=>
      rw [if_neg (by simp),if_neg hc.1]
      exact ih
    ·exact .inl rfl
  ·rw [if_neg hm]
   by_cases hdt:o.d=some t
   ·rw [if_pos (by simpa using hdt)];exact .inl rfl
   ·rw [if_neg (by simpa using hdt)]
    have hm':t∉o.up.map (·.1):=by simpa using hm
    rw [bq.upds_out hm',if_neg hdt]
    split
    ·exact ih
    ·exact ih
end
def idxOf (c:Nat):List OpR->Option Nat
 | []=>none
 | o::rest=>if o.d == some c then some rest.length else idxOf c rest
def FU (d c:Nat) (X Y:DX) (b:Bool):Stp:=
 Stp.set d (.val false [.d]) [] (.det fun s=>match iC s c with
  | some v=>if v=b then (match (if b then X else Y).get s with
   | some v=>some [.v [.v v] []]
   | none=>none) else none
  | none=>none)
def ZX (D0l:List TT):List (TT × Nat):=D0l.zipIdx.filter fun p=>!p.1.isDead
def amt (D0l:List TT) (rs:List OpR) (dom:List Nat) (kl:TT->TT) (beq:TT->TT->Bool):List Nat:=
 ((ZX D0l).filterMap fun p=>if dom.contains p.2 || beq (kl p.1) p.1 then none else some p.2) ++
 rs.flatMap fun o=>o.up.filterMap fun p=>if dom.contains p.1 || beq (kl p.2) p.2 then none else some p.1
structure Hint where
 al:Bool
 tk:List Nat
 hd:List Nat
def yM (P:Program) (sigs:FuncId->Option aJ) (N:Nat) (D0l:List TT) (rs:List OpR) (hide:List Nat) (h:Hint) (o:Oper):Option OpR:=
 let ch:=chR rs (rs.length+1) o.guard
 let g:=fun t=>if hide.contains t then .dead else EO (gt D0l) ch rs t
 match o.op,o.dst with
 | .pick (.tmp c) x y,some d=>
  let chb:=fun b:Bool=>match idxOf c rs with
   | some j=>(match rs[rs.length-1-j]? with
    | some oj=>if okg ch oj.gd then (j,b)::ch else ch
    | none=>ch)
   | none=>ch
  let gb:=fun b:Bool=>fun t=>if hide.contains t then TT.dead else EO (gt D0l) (chb b) rs t
  match jR (gb true) x,jR (gb false) y,jR (gb true) (.tmp c),jR (gb false) (.tmp c) with
  | some X,some Y,some _,some _=>if d<N then
    let S:=FU d c X Y
    let ks:=amt D0l rs [d] (S true).kl TT.beq
    some ⟨S,fun s=>iC s c,(S true).up++ks.map (fun t=>(t,.dead)),some d,o.guard,gb,hide,some c⟩ else none
  | _,_,_,_=>none
 | _,_=>match ZT P sigs N h.al o (h.hd.filter fun x=>Nat.ble 3000000000 x) g h.tk with
  | some S=>
   let ks:=amt D0l rs (S.up.map (·.1)) S.kl TT.beq
   some ⟨fun _=>S,fun _=>some true,S.up++ks.map (fun t=>(t,.dead)),o.dst,o.guard,fun _=>g,hide,none⟩
  | none=>none
end Go.Fw
namespace Go.Fw
section
variable {α:Type}
def fN (n:Nat) (k:Nat->α):α:=match n with
 | 0=>k 0
 | m+1=>k (m+1)
theorem rq (n:Nat) (k:Nat->α):fN n k=k n:=by cases n<;>rfl
def fB (b:Bool) (k:Bool->α):α:=match b with
 | true=>k true
 | false=>k false
theorem af1 (b:Bool) (k:Bool->α):fB b k=k b:=by cases b<;>rfl
def fL {β:Type} (f:β->(β->α)->α):List β->(List β->α)->α
 | [],k=>k []
 | x::l,k=>f x fun x=>fL f l fun l=>k (x::l)
theorem xK {β:Type} {f:β->(β->α)->α} (hf:∀x k,f x k=k x):∀(l:List β) (k:List β->α),fL f l k=k l
 | [],k=>rfl
 | x::l,k=>by rw [fL,hf,xK hf l]
def fP (p:Nat × Nat) (k:Nat × Nat->α):α:=fN p.1 fun a=>fN p.2 fun b=>k (a,b)
theorem af2 (p:Nat × Nat) (k:Nat × Nat->α):fP p k=k p:=by unfold fP;rw [rq,rq]
def fW (p:Bool × Nat) (k:Bool × Nat->α):α:=fB p.1 fun a=>fN p.2 fun b=>k (a,b)
theorem aqp (p:Bool × Nat) (k:Bool × Nat->α):fW p k=k p:=by unfold fW;rw [af1,rq]
def fMd:Md->(Md->α)->α
 | .own none,k=>k (.own none)
 | .own (some p),k=>fP p fun p=>k (.own (some p))
 | .ro S,k=>fL fN S fun S=>k (.ro S)
 | .dead,k=>k .dead
theorem aoR (m:Md) (k:Md->α):fMd m k=k m:=by
 cases m with
 | own p=>cases p with
  | none=>rfl
  | some p=>rw [fMd,af2]
 | ro S=>rw [fMd,xK rq]
 | dead=>rfl
mutual
def fC:CT->(CT->α)->α
 | .d,k=>k .d
 | .sl m e,k=>fMd m fun m=>Xk e fun e=>k (.sl m e)
def Xk:List CT->(List CT->α)->α
 | [],k=>k []
 | c::cs,k=>fC c fun c=>Xk cs fun cs=>k (c::cs)
end
mutual
theorem aqr:∀(c:CT) (k:CT->α),fC c k=k c
 | .d,k=>rfl
 | .sl m e,k=>by rw [fC,aoR,EP e]
theorem EP:∀(c:List CT) (k:List CT->α),Xk c k=k c
 | [],k=>rfl
 | c::cs,k=>by rw [Xk,aqr c,EP cs]
end
def fT:TT->(TT->α)->α
 | .dead,k=>k .dead
 | .val ag cs,k=>fB ag fun ag=>Xk cs fun cs=>k (.val ag cs)
 | .alias ag cs r sk off S,k=>fB ag fun ag=>Xk cs fun cs=>fN r fun r=>fL fP sk fun sk=>fN off fun off=>fL fN S fun S=>k (.alias ag cs r sk off S)
 | .box cs,k=>Xk cs fun cs=>k (.box cs)
 | .ptr r sk off S,k=>fN r fun r=>fL fP sk fun sk=>fN off fun off=>fL fN S fun S=>k (.ptr r sk off S)
 | .tup ws cs,k=>fL fW ws fun ws=>Xk cs fun cs=>k (.tup ws cs)
theorem amv (T:TT) (k:TT->α):fT T k=k T:=by
 cases T with
 | dead=>rfl
 | val ag cs=>rw [fT,af1,EP]
 | alias ag cs r sk off S=>rw [fT,af1,EP,rq,xK af2,rq,xK rq]
 | box cs=>rw [fT,EP]
 | ptr r sk off S=>rw [fT,rq,xK af2,rq,xK rq]
 | tup ws cs=>rw [fT,xK aqp,EP]
def fTs (l:List TT) (k:List TT->α):α:=fL fT l k
theorem aiC (l:List TT) (k:List TT->α):fTs l k=k l:=xK amv l k
def fU (p:Nat × TT) (k:Nat × TT->α):α:=fN p.1 fun a=>fT p.2 fun b=>k (a,b)
theorem aqs (p:Nat × TT) (k:Nat × TT->α):fU p k=k p:=by unfold fU;rw [rq,amv]
def fUp (l:List (Nat × TT)) (k:List (Nat × TT)->α):α:=fL fU l k
theorem aoT (l:List (Nat × TT)) (k:List (Nat × TT)->α):fUp l k=k l:=xK aqs l k
end
end Go.Fw
namespace Go.Fw
def jU (P:Program) (sigs:FuncId->Option aJ) (N:Nat) (D0l:List TT) (hid:Nat->List Nat) (hints:List Hint):Nat->List Oper->List OpR->Option (List OpR)
 | _,[],rs=>some rs.reverse
 | i,o::os,rs=>match yM P sigs N D0l rs (hid i) (hints.getD i ⟨false,[],[]⟩) o with
  | some x=>fUp x.up fun up=>jU P sigs N D0l hid hints (i+1) os ({ x with up:=up }::rs)
  | none=>none
def nQ (rs:List OpR) (i:Nat):List Nat:=(mG rs i).map (·.1)++(vY rs i).toList
theorem Xl {P:Program} {sigs:FuncId->Option aJ} {N:Nat} {D0l:List TT} {hid:Nat->List Nat} {hints:List Hint}:∀{os:List Oper} {rs0 rs:List OpR} {i:Nat},jU P sigs N D0l hid hints i os rs0=some rs->rs0.length=i ->
  rs.length=i+os.length/\(∃post,rs=rs0.reverse++post)/\∀k o,os[k]?=some o->∃x,rs[i+k]?=some x/\yM P sigs N D0l ((rs.take (i+k)).reverse) (hid (i+k)) (hints.getD (i+k) ⟨false,[],[]⟩) o=some x
 | [],rs0,rs,i,h,hl=>by
  simp only [jU,aK] at h
  subst h
  exact ⟨by simp [hl],⟨[],by simp⟩,fun k o hk=>by simp at hk⟩
 | o::os,rs0,rs,i,h,hl=>by
  simp only [jU] at h
  split at h
  case h_2=>cases h
  case h_1 x hx=>
  rw [aoT] at h
  have h:jU P sigs N D0l hid hints (i+1) os (x::rs0)=some rs:=h
  obtain ⟨k1,⟨post,k2⟩,k3⟩:=Xl h (by simp [hl])
  refine ⟨by simp only [bA];omega,⟨x::post,by rw [k2];simp⟩,fun k o' hk => ?_⟩
  cases k with
  | zero=>
   simp at hk
   subst hk
   refine ⟨x,?_,?_⟩
   ·rw [k2];simp [<-hl]
   ·have:(rs.take (i+0)).reverse=rs0:=by
     rw [k2,Nat.add_zero,<-hl];simp
    rw [this];exact hx
  | succ k=>
   obtain ⟨x',g1,g2⟩:=k3 k o' (by simpa using hk)
   rw [show i+1+k=i+(k+1) from by omega] at g1 g2
   exact ⟨x',g1,g2⟩
structure af3 (P:Program) (N:Nat) (o:Oper) (x:OpR):Prop where
 ok:∀b,dh P N o (x.g b) (x.S b)
 kl:∀b,(x.S b).kl=(x.S true).kl
 sup:∀b,(x.S b).up=(x.S true).up
 up:∃ks:List Nat,x.up=(x.S true).up++ks.map fun t=>(t,.dead)
 d:x.d=o.dst
 gd:x.gd=o.guard
 kd:(x.S true).kl .dead = .dead
 vl:∀b s v,(x.S b).eff.rel P s v->v.length<=(x.S b).up.length/\0<v.length
theorem ad8 {P:Program} {N:Nat} {g:Nat->TT} {o:Oper} {d c:Nat} {x y:Operand} {X Y:DX} {b:Bool} (ho:o.op = .pick (.tmp c) x y) (hd:o.dst=some d) (hdN:d<N) (hx:jR g (if b then x else y)=some (if b then X else Y)) {C:DX}
  (hc:jR g (.tmp c)=some C):dh P N o g (FU d c X Y b):=by
 intro ac κ0 κ w0 w tg sv s a v next Q hN hR hL hv hcont;simp only [FU,Stp.set,Eff.rel] at hv;split at hv;case h_2=>cases hv
 case h_1 cv hcv=>
 split at hv;case isFalse=>cases hv
 case isTrue hcb=>
 subst hcb;split at hv;case h_2=>cases hv
 case h_1 y' hy=>
 cases hv;obtain ⟨e1,e2⟩:=oW hR hL hx hy;have hC:C = .t c:=by
  simp only [jR] at hc;split at hc
  ·cases hc;rfl
  ·cases hc
 subst hC;obtain ⟨e3,_⟩:=oW hR hL hc (v:=.bool cv) (by
  simp only [DX.get]
  unfold iC at hcv
  split at hcv
  ·rename_i c' is hs;cases hcv;rw [hs]
  ·cases hcv)
 refine gp hd hN hdN (w':=w) (x:=y') ?_ (R9 hR hdN e2 (Grows.refl w)) hcont;unfold execOp;rw [ho];simp only [e3];cases cv with
 | true=>simp only [if_true] at e1;simp only [e1];rfl
 | false=>simp only [Bool.false_eq_true,if_false] at e1;simp only [e1];rfl
theorem Xm {P:Program} {sigs:FuncId->Option aJ} {N:Nat} {D0l:List TT} {rs:List OpR} {hide:List Nat} {h:Hint} {o:Oper} {x:OpR} (hx:yM P sigs N D0l rs hide h o=some x):af3 P N o x:=by
 unfold yM at hx;simp only at hx;split at hx
 ·rename_i c xx yy d hop hd;split at hx;case h_2=>cases hx
  case h_1 X Y C1 C2 hX hY hC1 hC2=>
  split at hx;case isFalse=>cases hx
  case isTrue hdN=>
  cases hx;refine ⟨fun b => ?_,fun b=>rfl,fun b=>rfl,⟨_,rfl⟩,hd.symm,rfl,rfl,fun b s v hv => ?_⟩
  ·cases b with
   | true=>exact ad8 hop hd hdN hX hC1
   | false=>exact ad8 hop hd hdN hY hC2
  ·simp only [FU,Stp.set,Eff.rel] at hv ⊢;repeat' split at hv
   all_goals first
    | (cases hv;simp)
    | cases hv
 ·split at hx;case h_2=>cases hx
  case h_1 S hS=>
  cases hx;obtain ⟨k1,k2,k3⟩:=ad4 hS;exact ⟨fun b=>k1,fun b=>rfl,fun b=>rfl,⟨_,rfl⟩,rfl,rfl,k2,fun b s v hv=>k3 s v hv⟩
def o9 (np:Nat->Bool) (N:Nat) (D0l:List TT) (rs:List OpR) (bef:Nat->Nat->Bool) (hid:Nat->List Nat):Bool:=
 (List.range rs.length).all fun i=>match rs[i]? with
  | none=>false
  | some o=>
   ((List.range rs.length).all fun j=>(j == i) || bef i j || bef j i || ((nQ rs j).all fun t=>(hid i).contains t && !(nQ rs i).contains t)) &&
   ((List.range rs.length).all fun j=>(j == i) || bef i j || ((mG rs j).all fun p=>(o.up.map (·.1)).contains p.1 || ((o.S true).kl p.2).beq p.2)) &&
   ((ZX D0l).all fun p=>(o.up.map (·.1)).contains p.2 || ((o.S true).kl p.1).beq p.1) &&
   (match o.d with
    | some d=>decide (d<N) && !np d
    | none=>true) &&
   (match o.gd with
    | none=>true
    | some (j,_)=>bef j i&&decide (j<i)&&(match vY rs j with
      | some t=>((List.range rs.length).all fun k=>(k == j) || !(nQ rs k).contains t)&&((mG rs j).map (·.1)).contains t&&(ay (fun _=>TT.dead) (mG rs j) t).beq (.val false [.d])
      | none=>false) &&
     (match o.d with
      | some d=>((ZX D0l).all fun p=>(p.2 == d) || (p.1.kill [d] []).beq p.1)&&((List.range rs.length).all fun j=>(j == i) || bef i j || ((mG rs j).all fun p=>(p.1 == d) || (p.2.kill [d] []).beq p.2))
      | none=>true)) &&
   ([true,false].all fun b=>((o.S b).up.drop 1).all fun p=>p.2.isDead || !(o.g b p.1).isDead) &&
   (match o.pk with
    | some c=>Nat.ble ((List.range rs.length).filter fun k=>(nQ rs k).contains c).length 1
    | none=>true)
end Go.Fw
namespace Go.Fw
theorem aoU {r:bq} {L:Nat->Bool} {j t:Nat} (hj:j<r.n) (hL:L j=true) (hw:r.wn j=true) (ht:t∈(r.up j).map (·.1)) (ho:∀k,k<r.n->r.Wd k t->k=j) :
  ∀k,j<k->k<=r.n->r.dL L k t=ay (fun _=>.dead) (r.up j) t:=by
 intro k;induction k with
 | zero=>intro h;omega
 | succ k ih=>
  intro h1 h2;simp only [bq.dL];by_cases hkj:k=j
  ·subst hkj;rw [hL,if_pos rfl];unfold bq.dS;rw [hw,if_pos rfl];exact bq.upds_in ht
  ·have hn:¬r.Wd k t:=fun hw'=>hkj (ho k (by omega) hw')
   have:=ih (by omega) (by omega);split
   ·rw [bq.dS_out hn];exact this
   ·exact this
theorem aiD {r:bq} {L:Nat->Bool} {j t:Nat} (ho:∀k,k<r.n->r.Wd k t->k=j):∀k,j<k->k<=r.n->r.sL L k t=r.sL L (j+1) t:=by
 intro k;induction k with
 | zero=>intro h;omega
 | succ k ih=>
  intro h1 h2;by_cases hkj:k=j
  ·rw [hkj]
  ·have hn:¬r.Wd k t:=fun hw'=>hkj (ho k (by omega) hw')
   have:=ih (by omega) (by omega);simp only [bq.sL];split
   ·rw [bq.sS_out hn];exact this
   ·exact this
theorem af4 {r:bq} {k i:Nat} (h:k<=i):r.sL (bq.lt i) k=r.sL allT k:=bq.sL_congr k fun j hj=>by simp [bq.lt,allT];omega
theorem ad9 {D0l:List TT} {t:Nat} {T:TT} (hT:D0l[t]?=some T) (hnd:T≠.dead):(T,t)∈ZX D0l:=by
 unfold ZX;rw [List.mem_filter,List.mem_zipIdx_iff_getElem?];refine ⟨hT,?_⟩;cases T<;>first|exact absurd rfl hnd|rfl
section
variable {P:Program} {sigs:FuncId->Option aJ} {N:Nat} {D0l:List TT} {hid:Nat->List Nat} {hints:List Hint} {l:List Oper} {rs:List OpR} {bef:Nat->Nat->Bool} {s0:Nat->AV} {np:Nat->Bool} {px:Nat->Value} {wl:List Bool} {vl:List (List AV)}
theorem kG (hok:o9 np N D0l rs bef hid=true) {i:Nat} {o:OpR} (ho:rs[i]?=some o) :
  (∀j,j<rs.length->j≠i->bef i j=false->bef j i=false->∀t,t∈nQ rs j->t∈hid i/\t∉nQ rs i) /\
  (∀j,j<rs.length->j≠i->bef i j=false->∀t T,(t,T)∈mG rs j->t∉o.up.map (·.1)->(o.S true).kl T=T) /\
  (∀t T,D0l[t]?=some T->T≠.dead->t∉o.up.map (·.1)->(o.S true).kl T=T)/\(∀d,o.d=some d->d<N/\np d=false) /\
  (∀j b,o.gd=some (j,b)->bef j i=true/\j<i/\(∃t,vY rs j=some t/\(∀k,k<rs.length->t∈nQ rs k->k=j)/\t∈(mG rs j).map (·.1)/\ay (fun _=>TT.dead) (mG rs j) t = .val false [.d]) /\
   ∀d,o.d=some d->(∀t T,D0l[t]?=some T->t≠d->T.kill [d] []=T)/\∀k,k<rs.length->k≠i->bef i k=false->∀t T,(t,T)∈mG rs k->t≠d->T.kill [d] []=T) /\
  (∀b p,p∈(o.S b).up.drop 1->p.2 = .dead\/o.g b p.1≠.dead) /\
  (∀c,o.pk=some c->∀k k',k<rs.length->k'<rs.length->c∈nQ rs k->c∈nQ rs k'->k=k'):=by
 have hi:=(aS ho).1;unfold o9 at hok;rw [List.all_eq_true] at hok;have h:=hok i (List.mem_range.2 hi);rw [ho] at h;simp only [aP] at h;obtain ⟨⟨⟨⟨⟨⟨h1,h2⟩,h3⟩,h4⟩,h5⟩,h6⟩,h7⟩:=h;refine ⟨fun j hj hji hb1 hb2 t ht => ?_,fun j hj hji hb1 t T hT ht => ?_,fun t T hT hnd ht => ?_,fun d hd => ?_,fun j b hg => ?_,fun b p hp => ?_,fun c hc k k' hk hk' hck hck' => ?_⟩
 ·have:=(List.all_eq_true.1 h1) j (List.mem_range.2 hj);simp only [hb1,hb2,Bool.or_false,Bool.or_eq_true,beq_iff_eq] at this;have:=(List.all_eq_true.1 (this.resolve_left hji)) t ht;simpa using this
 ·have:=(List.all_eq_true.1 h2) j (List.mem_range.2 hj);simp only [hb1,Bool.or_false,Bool.or_eq_true,beq_iff_eq] at this;have:=(List.all_eq_true.1 (this.resolve_left hji)) (t,T) hT;simp only [Bool.or_eq_true] at this;rcases this with h|h
  ·exact absurd (by simpa using h) ht
  ·exact TT.beq_eq h
 ·have hm:(T,t)∈ZX D0l:=ad9 hT hnd;have:=(List.all_eq_true.1 h3) (T,t) hm;simp only [Bool.or_eq_true] at this;rcases this with h|h
  ·exact absurd (by simpa using h) ht
  ·exact TT.beq_eq h
 ·rw [hd] at h4;simpa using h4
 ·rw [hg] at h5;simp only [aP,decide_eq_true_eq] at h5;obtain ⟨⟨⟨g1,g2⟩,g3⟩,g4⟩:=h5;refine ⟨g1,g2,?_,fun d hd => ?_⟩
  ·split at g3
   ·rename_i t ht;simp only [aP] at g3;obtain ⟨⟨g5,g6⟩,g7⟩:=g3;refine ⟨t,ht,fun k hk hkt => ?_,by simpa using g6,TT.beq_eq g7⟩;have:=(List.all_eq_true.1 g5) k (List.mem_range.2 hk);simp only [Bool.or_eq_true,beq_iff_eq,Bool.not_eq_true'] at this;rcases this with h|h
    ·exact h
    ·simp at h;exact absurd hkt h
   ·cases g3
  ·rw [hd] at g4;simp only [aP] at g4;refine ⟨fun t T hT ht => ?_,fun k hk hki hb t T hT ht => ?_⟩
   ·by_cases hnd:T = .dead
    ·subst hnd;rfl
    have hm:(T,t)∈ZX D0l:=ad9 hT hnd;have:=(List.all_eq_true.1 g4.1) (T,t) hm;simp only [Bool.or_eq_true,beq_iff_eq] at this;exact TT.beq_eq (this.resolve_left ht)
   ·have:=(List.all_eq_true.1 g4.2) k (List.mem_range.2 hk);simp only [hb,Bool.or_false,Bool.or_eq_true,beq_iff_eq] at this;have:=(List.all_eq_true.1 (this.resolve_left hki)) (t,T) hT;simp only [Bool.or_eq_true,beq_iff_eq] at this;exact TT.beq_eq (this.resolve_left ht)
 ·have:=(List.all_eq_true.1 h6) b (by cases b<;>simp);have:=(List.all_eq_true.1 this) p hp;simp only [Bool.or_eq_true,Bool.not_eq_true'] at this;rcases this with h|h
  ·exact .inl (Bd h)
  ·right;intro he;rw [he] at h;simp [TT.isDead] at h
 ·rw [hc] at h7;have h8:=Nat.le_of_ble_eq_true h7;have m1:k∈(List.range rs.length).filter fun k=>(nQ rs k).contains c:=List.mem_filter.2 ⟨List.mem_range.2 hk,by simpa using hck⟩
  have m2:k'∈(List.range rs.length).filter fun k=>(nQ rs k).contains c:=List.mem_filter.2 ⟨List.mem_range.2 hk',by simpa using hck'⟩
  generalize (List.range rs.length).filter (fun k=>(nQ rs k).contains c)=l at h8 m1 m2;match l,h8,m1,m2 with
  | [x],_,m1,m2=>
   rw [List.mem_singleton] at m1 m2;rw [m1,m2]
end
end Go.Fw
