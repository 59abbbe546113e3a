/- A way of showing what a function computes: the blocks of the heap are owned by the places that kg them; this is a part of it. No conditions. -/
import Derived.Test.YtjicinmnfkinhaaGreatG1
import Derived.Orders
import Derived.OrdersHeld
import Derived.Laws.StructEq
import Derived.Laws.BytesString
set_option linter.unusedSectionVars false
namespace Go.Fw
def qM (g:Nat->TT) (t:Nat):Nat->TT:=fun u=>if u=t then .dead else (g u).kill [t] [t]
def zD (t r base:Nat) (κ:aP):aP:=fun b=>
 match κ b with
 | some (r',m::q)=>if r'=t then some (r,(base+m)::q) else some (r',m::q)
 | x=>x
theorem abZ {t r base:Nat} {κ:aP} {b:Nat} (h:∀q,κ b≠some (t,q)):zD t r base κ b=κ b:=by
 unfold zD;split
 ·rename_i r' m q hk;rw [if_neg (by rintro rfl;exact h _ hk),hk]
 ·rfl
theorem adh {t r base:Nat} {κ:aP} {b:Nat} (h:κ b=none):zD t r base κ b=none:=by
 rw [abZ (by rw [h];simp),h]
section
variable {ac:Nat->Nat->aj} {κ0 κ:aP} {w0 w:aA} {N:Nat} {tg:Nat->TT} {sv:Nat->AV} {tm:Nat->aj}
theorem av3 (h:R ac κ0 w0 κ w N tg sv tm) {t r base:Nat} (lV:t<N):R ac κ0 w0 (zD t r base κ) w N (qM tg t) sv tm:=by
 refine uy (mods:=[t]) (M:=[t]) h ?_ (fun S hS b hb => ?_) (fun b r' q hr hb => ?_) (fun r' hr => ?_) (fun _ _=>rfl) (fun _ _=>rfl) (fun u hu => ?_) (fun u hu => ?_) (fun b hb => ?_) ?_
 ·have:=h.nle;simp only [bY];omega
 ·have bv:∀q,κ b≠some (t,q):=fun q hk=>hS t (by simp) (hb.2 _ _ hk).1
  exact ⟨⟨hb.1,fun r' q hk=>by rw [abZ bv] at hk;exact hb.2 _ _ hk⟩,Same.refl w b⟩
 ·simp only [bY] at hr;exact ⟨abZ (by rw [hb];intro q hk;cases hk;exact hr rfl),Same.refl w b⟩
 ·simp only [bY] at hr;left;simp [qM,hr]
 ·simp only [bY] at hu;subst hu;simp [qM,TR]
 ·have:u≠t:=by omega
  simp only [qM,if_neg this,h.out u hu];rfl
 ·exact adh (h.col b hb)
 ·refine ⟨h.fr.size,fun b hb h0 => ?_,h.fr.os,h.fr.out,h.fr.tape⟩;have:=h.fr.kept b hb h0;exact ⟨adh this.1,this.2⟩
end
theorem asq {g tg:Nat->TT} {s sv:Nat->AV} (h:Le g s tg sv) (t:Nat):Le (qM g t) s (qM tg t) sv:=by
 intro u;by_cases hu:u=t
 ·left;simp [qM,hu]
 ·rcases h u with h1|h1
  ·left;simp only [qM,if_neg hu,h1];rfl
  ·right;simp only [qM,if_neg hu,h1.1];exact ⟨trivial,h1.2⟩
def MP (j j2 base:Nat) (q:aa Nat):ah Pl:=
 match q with
 | m::q'=>if base<=m then some (j2,(m-base)::q') else some (j,m::q')
 | []=>some (j,[])
section
variable {P:aR} {ac:Nat->Nat->aj} {κ0 κ:aP} {w0 w:aA} {N:Nat} {tg g:Nat->TT} {sv s:Nat->AV} {a:Act}
theorem azQ (h:R ac κ0 w0 κ w N tg sv (gm a)) {t r j j2 base:Nat} {ag:Bool} {cs cs':aa CT} (ht:tg t = .val ag cs') (a_:Cs cs' cs=true) {as:aa A} {is:aa Nat} (hs:sv t = .v as is) {Sall:aa Nat} :
  pW (fV (zD t r base κ) (some r) (MP j j2 base) Sall) w j2 (gm a t) as (.tk ag cs):=by
 have h1:=h.tr t;rw [ht] at h1;simp only [TR] at h1;obtain ⟨as',vs,g1,g2,g3,_,g5⟩:=h1;rw [hs] at g1;cases g1;refine ⟨vs,g2,by rw [g3,I1 a_],?_⟩;have:=gH (f:=id) (P:=fun _=>False) (κ:=κ) (w:=w) (κ':=fV (zD t r base κ) (some r) (MP j j2 base) Sall) (w':=w) (p':=(j2,[])) (j':=0) (get':=fun k=>vs.getD k undef) (fun S hS=>hS.elim) (uB (uC a_).2.2) (fun i hi b q hb=>⟨?_,Same.refl w b⟩) (fun i hi=>rfl) (Sm a_ g5)
 ·rwa [iU] at this
 ·have di:κ b=some (t,i::q):=by rw [hb];simp
  unfold fV zD;rw [di];simp only [if_true,MP];rw [if_pos (by omega),show base+i-base=i from by omega];simp
theorem azR (h:R ac κ0 w0 κ w N tg sv (gm a)) {r j j2:Nat} {cr cs:aa CT} (hr:tg r = .box cr) (a_:XE cr cs=true) {as:aa A} {is:aa Nat} (hs:sv r = .v as is) {Sall:aa Nat} (hrS:r∉Sall) (hS:∀m,m∈CT.roSs cr->m∈Sall) {x:aj} (hx:x=gm a r) :
  pW (fV κ (some r) (MP j j2 cr.length) Sall) w j x as (.mp cs):=by
 have h1:=h.tr r;rw [hr] at h1;simp only [TR] at h1;obtain ⟨as',b,g1,g2,g3,g4,g5,g6,g7⟩:=h1;rw [hs] at g1;cases g1;subst hx;simp only [XE,aM] at a_;have rE:=CT.beqs_eq a_.1.1.1;have hl:cr.length=cs.length:=by
  have:=congrArg List.length rE;simpa [iY,gM] using this
 refine ⟨b,g2,g3,?_,by rw [<-hl];exact g5,?_⟩
 ·unfold fV;rw [g4];simp [MP]
 ·have:=gH (f:=fun _=>[]) (P:=fun S=>∀m,m∈S->m∈Sall) (κ:=κ) (w:=w) (κ':=fV κ (some r) (MP j j2 cr.length) Sall) (w':=w) (p':=(j,[])) (j':=0) (get':=cellD w b) (fun S hS b' hb=>⟨⟨hb.1,fun r' q hq => ?_⟩,Same.refl w b'⟩) (pX hS) (fun i hi b' q hb=>⟨?_,Same.refl w b'⟩) (fun i hi=>rfl) g7
  ·have h2:=gI.2 this;rw [rE] at h2;exact gI.1 h2
  ·exfalso;unfold fV at hq;cases hk:κ b' with
   | none=>simp [hk] at hq
   | some p=>
    obtain ⟨r2,q2⟩:=p;obtain ⟨h3,h4⟩:=hb.2 _ _ hk;have h5:=hS _ h3;have h6:r2≠r:=by rintro rfl;exact hrS h5
    simp [hk,h6,h5,h4] at hq
  ·have di:κ b'=some (r,i::q):=by rw [hb];simp
   unfold fV;rw [di];simp only [if_true,MP];rw [if_neg (by omega)];simp
end
def asr:Nat->aa PM->aa iN->ah (Nat × Nat)
 | i,.tk _ _::_,.tmp t::_=>some (i,t)
 | i,_::ps,_::xs=>asr (i+1) ps xs
 | _,_,_=>none
def xn (P:aR) (g:Nat->TT) (ag':Bool) (cs':aa CT) (t j2:Nat):Nat->aa PM->aa iN->aa TypeId->ah AX
 | _,[],[],[]=>some ⟨[],[],[],none⟩
 | i,pm::ps,x::xs,ty::tys=>match xn P g ag' cs' t j2 (i+1) ps xs tys with
  | some Y=>match pm with
   | .rd ag cs=>match rdX P g ty i ag cs x with
    | some (X,S)=>some ⟨X.get::Y.gets,X.rd++Y.rd,S++Y.S,Y.sp⟩
    | none=>none
   | .tk ag cs=>match x with
    | .tmp t'=>if t'=t/\i=j2/\ag=ag'/\Cs cs' cs=true then some ⟨iM t::Y.gets,t::Y.rd,Y.S,Y.sp⟩ else none
    | _=>none
   | .mp cs=>match Y.sp,tF g (.mp cs) x with
    | none,some (f,rd)=>some ⟨f::Y.gets,rd++Y.rd,Y.S,some (i,.mp cs,x)⟩
    | _,_=>none
   | .mt _ _=>none
  | none=>none
 | _,_,_,_=>none
section
variable {P:aR} {ac:Nat->Nat->aj} {κ0 κ:aP} {w0 w:aA} {N:Nat} {tg g:Nat->TT} {sv s:Nat->AV} {a:Act}
theorem adi (h:R ac κ0 w0 κ w N tg sv (gm a)) (hL:Le g s tg sv) {r0:ah Nat} {gG:aa Nat->ah Pl} {Sall:aa Nat} (oC:∀r,r0=some r->r∉Sall) {ag':Bool} {cs':aa CT} {t j2:Nat}
  (JZ:∀cs as,Cs cs' cs=true->iM t s=some as->pW (fV κ r0 gG Sall) w j2 (gm a t) as (.tk ag' cs)) :
  ∀{i:Nat} {ps:aa PM} {xs:aa iN} {tys:aa TypeId} {Y:AX} {ass:aa (aa A)},xn P g ag' cs' t j2 i ps xs tys=some Y->oI s Y.gets=some ass->(∀r,r∈Y.S->r∈Sall) ->
   (∀j cs x f rd as,Y.sp=some (j,.mp cs,x)->tF g (.mp cs) x=some (f,rd)->f s=some as->pW (fV κ r0 gG Sall) w j (a.eval x) as (.mp cs)) ->
   xs.length=ps.length/\ass.length=ps.length/\(∀k pm x as,ps[k]?=some pm->(xs.map a.eval)[k]?=some x->ass[k]?=some as->pW (fV κ r0 gG Sall) w (i+k) x as pm) /\
   (∀j pm x,Y.sp=some (j,pm,x)->i<=j/\ps[j-i]?=some pm/\pm.mut=true/\xs[j-i]?=some x)
 | i,[],[],[],Y,ass,hx,hg,_,_=>by
  simp only [xn,aK] at hx
  subst hx
  simp only [oI,aK] at hg
  subst hg
  simp
 | i,pm::ps,x::xs,ty::tys,Y,ass,hx,hg,hS,sP=>by
  simp only [xn] at hx
  split at hx
  case h_2=>cases hx
  case h_1 Y' hY=>
  have fin:∀{f:(Nat->AV)->ah (aa A)} {rd S:aa Nat} {sp:ah (Nat × PM × iN)} {ass':aa (aa A)} {as:aa A},
    (Y'.sp=sp\/Y'.sp=none/\sp=some (i,pm,x)/\pm.mut=true)->oI s Y'.gets=some ass'->ass=as::ass'->(∀r,r∈Y'.S->r∈Sall) ->
    (∀j cs x f rd as,Y'.sp=some (j,.mp cs,x)->tF g (.mp cs) x=some (f,rd)->f s=some as->pW (fV κ r0 gG Sall) w j (a.eval x) as (.mp cs))->pW (fV κ r0 gG Sall) w i (a.eval x) as pm->Y.sp=sp ->
    (x::xs).length=(pm::ps).length/\ass.length=(pm::ps).length/\(∀k pm' x' as,(pm::ps)[k]?=some pm'->((x::xs).map a.eval)[k]?=some x'->ass[k]?=some as->pW (fV κ r0 gG Sall) w (i+k) x' as pm') /\
   (∀j pm' x',Y.sp=some (j,pm',x')->i<=j/\(pm::ps)[j-i]?=some pm'/\pm'.mut=true/\(x::xs)[j-i]?=some x'):=by
   intro f rd S sp ass' as aGv qC hae hS' aGw aGx aGy;subst hae;obtain ⟨k1,k2,k3,k4⟩:=adi h hL oC JZ hY qC hS' aGw;refine ⟨by simp [k1],by simp [k2],fun k pm' x' as' h1 h2 h3 => ?_,fun j pm' x' hj => ?_⟩
   ·cases k with
    | zero=>
     simp at h1 h2 h3;subst h1 h2 h3;exact aGx
    | succ k=>
     rw [show i+(k+1)=i+1+k from by omega];exact k3 k pm' x' as' (by simpa using h1) (by simpa using h2) (by simpa using h3)
   ·rw [aGy] at hj;rcases aGv with he|⟨hn,he,hm⟩
    ·obtain ⟨g1,g2,g3,g4⟩:=k4 j pm' x' (he.trans hj);have e1:j-i=(j-(i+1))+1:=by omega
     rw [e1];exact ⟨by omega,by simpa using g2,g3,by simpa using g4⟩
    ·rw [he] at hj;simp only [aK,bU] at hj;obtain ⟨rfl,rfl,rfl⟩:=hj;exact ⟨dV _,by simp,hm,by simp⟩
  split at hx
  ·rename_i ag cs
   split at hx
   case h_2=>cases hx
   case h_1 X S hX=>
   cases hx
   simp only [oI] at hg
   split at hg
   case h_2=>cases hg
   case h_1 as ass' jL qC=>
   cases hg
   exact fin (f:=X.get) (rd:=[]) (S:=[]) (.inl rfl) qC rfl (fun r hr=>hS r (by simp [hr])) (fun j cs x f rd as hj=>sP j cs x f rd as hj) (aso h hL hX jL (fun r hr=>hS r (by simp [hr])) oC) rfl
  ·rename_i ag cs
   split at hx
   case h_2=>cases hx
   case h_1 t'=>
   split at hx
   case isFalse=>cases hx
   case isTrue hc=>
   obtain ⟨rfl,rfl,rfl,a_⟩:=hc
   cases hx
   simp only [oI] at hg
   split at hg
   case h_2=>cases hg
   case h_1 as ass' jL qC=>
   cases hg
   exact fin (f:=iM t') (rd:=[]) (S:=[]) (.inl rfl) qC rfl hS (fun j cs x f rd as hj=>sP j cs x f rd as hj) (JZ cs as a_ jL) rfl
  ·rename_i cs
   split at hx
   case h_2=>cases hx
   case h_1 f rd WW hsg=>
   cases hx
   simp only [oI] at hg
   split at hg
   case h_2=>cases hg
   case h_1 as ass' jL qC=>
   cases hg
   exact fin (f:=f) (rd:=[]) (S:=[]) (.inr ⟨WW,rfl,rfl⟩) qC rfl hS (fun j cs x f rd as hj=>by rw [WW] at hj;cases hj) (sP i cs x f rd as rfl hsg jL) rfl
  ·cases hx
 | _,[],_::_,_,_,_,hx,_,_,_=>by simp [xn] at hx
 | _,[],[],_::_,_,_,hx,_,_,_=>by simp [xn] at hx
 | _,_::_,[],_,_,_,hx,_,_,_=>by simp [xn] at hx
 | _,_::_,_::_,[],_,_,hx,_,_,_=>by simp [xn] at hx
end
def aoZ (sg:aO) (j:Nat):Bool:=
 match sg.ps[j]? with
 | some pm=>pm.mut
 | none=>false
theorem av4 {sg:aO} {j:Nat} (h:aoZ sg j=true):∃pm,sg.ps[j]?=some pm/\pm.mut=true:=by
 unfold aoZ at h;split at h
 ·rename_i pm kK;exact ⟨pm,kK,h⟩
 ·cases h
def VB (P:aR) (sigs:FuncId->ah aO) (N:Nat) (g:Nat->TT) (o:bS):ah Stp:=
 match o.dst,o.op with
 | some d,.call c=>match c.callee with
  | .value (.func K)=>match P.funcs[K]?,sigs K with
   | some fn,some sg=>match asr 0 sg.ps c.args.toList with
    | some (j2,t)=>match g t with
     | .val ag' cs'=>match xn P (qM g t) ag' cs' t j2 0 sg.ps c.args.toList fn.params.toList with
      | some Y=>match spK N (qM g t) Y.sp with
       | some (.mp r cr cs j)=>
        if d < N ∧ (fn.name == "runtime.NumGoroutine") = false ∧ fn.body.isNone = false ∧ (r ∉ Y.S ++ CT.roSs cr ∧ r ≠ d) ∧ agw sg (Y.S ++ CT.roSs cr) = true ∧ sg.ps.length < FB ∧ t < N ∧ t ≠ d ∧ t ≠ r ∧ aoZ sg j2 = true then
         some ⟨[(d,eZ (Y.S++CT.roSs cr) sg.res),(r,.box (CT.mapSs (fun _=>Y.S++CT.roSs cr) (CT.unpins cs))),(t,.dead)],fun T=>(T.kill [t] [t]).killS r [d,r] [r],Y.rd++[r,t],.call K sg (fun s=>oI s Y.gets) fun res outs s=>(SK.mp r cr cs j).post sg.res res outs s⟩
        else none
       | _=>none
      | none=>none
     | _=>none
    | none=>none
   | _,_=>none
  | _=>none
 | _,_=>none
theorem akQ {P:aR} {sigs:FuncId->ah aO} {N:Nat} {g:Nat->TT} {o:bS} {S:Stp} (h:VB P sigs N g o=some S):d_ P N o g S:=by
 unfold VB at h;split at h;case h_2=>cases h
 case h_1 d c hd ho=>
 obtain ⟨callee,args,ats⟩:=c;simp only at h;split at h;case h_2=>cases h
 case h_1 _ K=>
 split at h;case h_2=>cases h
 case h_1 fn sg hf hsg=>
 split at h;case h_2=>cases h
 case h_1 j2 t0 aI_=>
 split at h;case h_2=>cases h
 case h_1 ag' cs' BM=>
 split at h;case h_2=>cases h
 case h_1 Y hY=>
 split at h;case h_2=>cases h
 case h_1 r cr cs j hk=>
 split at h;case isFalse=>cases h
 case isTrue hc=>
 obtain ⟨hdN,arL,arM,oC,kW,jy,lV,aGz,aGA,aEr⟩:=hc;cases h;intro ac κ0 κ w0 w tg sv s a v next Q hN hR hL hv bT;simp only [Eff.rel] at hv;obtain ⟨ass,res,outs,FI,DK,jD⟩:=hv;have pO:=adf (a:=a) (w:=w) ho hf arL arM;have sP:=adg hk;generalize Cr:Y.sp=sp at sP;cases sP with
 | @mp _ t _ _ _ hr a_ sM ht=>
  have BS:=av3 (t:=t0) (r:=r) (base:=cr.length) hR lV;have hL2:=asq hL t0;obtain ⟨d1,d2⟩:=hL.at BM (by simp);obtain ⟨e1,e2⟩:=hL2.at hr (by simp);have FK:∀u,some r=some u->u∉Y.S++CT.roSs cr:=fun u hu=>by cases hu;exact oC.1
  have MM:=a_;simp only [XE,aM] at MM;have rE:=CT.beqs_eq MM.1.1.1;have axt:CT.srcss (CT.unpins cs)=[]:=List.isEmpty_iff.1 MM.1.2;simp only [SK.post] at jD;split at jD;case h_2=>cases jD
  case h_1 oo hoo=>
  cases jD;have h1:=BS.tr r;rw [e1] at h1;simp only [TR] at h1;obtain ⟨ra,b,g1,g2,g3,g4,g5,g6,g7⟩:=h1;have CO:gm a t=gm a r:=by
   rcases ht with rfl|⟨S0,hT⟩
   ·rfl
   ·obtain ⟨t1,t2⟩:=hL2.at hT (by simp);have h1:=BS.tr t;rw [t1] at h1;simp only [TR] at h1;obtain ⟨is,B,O,u1,u2,_,_,u5⟩:=h1;rw [e1] at u2;simp only [iH,rb,g2,dx] at u2;cases is with
    | nil=>
     simp only [wk,aK,bU] at u2;rw [u5,g2,<-u2.1,<-u2.2]
    | cons=>simp [wk] at u2
  obtain ⟨k1,k2,k3,k4⟩:=adi (r0:=some r) (gG:=MP j j2 cr.length) (Sall:=Y.S++CT.roSs cr) BS hL2 FK (fun cs2 as aGB jL=>by
   obtain ⟨is,hs⟩:=df jL
   exact azQ hR d1 aGB (by rw [d2,hs])) hY FI (fun r hr=>jc _ hr) (fun j' cs2 x f rd as hj kH zk=>by
   rw [Cr] at hj
   simp only [aK,bU,PM.mp.injEq] at hj
   obtain ⟨rfl,rfl,rfl⟩:=hj
   have gY:∃is,s r = .v as is:=by
    rcases ht with rfl|⟨S0,hT⟩
    ·simp only [tF,hr,aK,bU] at kH
     obtain ⟨rfl,_⟩:=kH
     exact df zk
    ·simp only [tF,hT,aK,bU] at kH
     obtain ⟨rfl,_⟩:=kH
     exact df zk
   obtain ⟨is,hs⟩:=gY
   exact azR BS e1 a_ (by rw [e2,hs]) (FK r rfl) (fun m hm=>jN _ hm) CO)
  obtain ⟨_,zl,hmj,JY⟩:=k4 _ _ _ Cr;refine zB (d:=d) (gB:=fun q=>some q) pO DK BS.col k1 k2 jy (fun q p _ hp => ?_) (fun k pm x as h1 h2 h3=>by simpa using k3 k pm x as h1 h2 h3) fun vv κ' w' qB lG ML => ?_
  ·have aC4:∃pm,sg.ps[j]?=some pm/\pm.mut=true:=⟨_,by simpa using zl,hmj⟩
   unfold MP at hp;split at hp
   ·split at hp
    ·cases hp;exact av4 aEr
    ·cases hp;exact aC4
   ·cases hp;exact aC4
  ·have fZ:r≠d:=oC.2;have akm:j<sg.ps.length:=by have:=(bn zl).1;omega
   have pz:=ML j (.mp cs) (gm a t) oo (by simpa using zl) (by
    rw [kz];simp only [DY] at JY;rw [JY];rfl) hoo
   obtain ⟨b',o1,o2,o3,o4,o5⟩:=pz;have hko:gN (zD t0 r cr.length κ) (fV (zD t0 r cr.length κ) (some r) (MP j j2 cr.length) (Y.S++CT.roSs cr)) κ' sg.ps.length d w.heap.size (some r) (fun q=>some q) b'=some (r,[]):=by
    unfold gN;rw [o3];simp only;rw [if_neg (by omega),if_neg (by omega)]
   have fF:TR ac (gN (zD t0 r cr.length κ) (fV (zD t0 r cr.length κ) (some r) (MP j j2 cr.length) (Y.S++CT.roSs cr)) κ' sg.ps.length d w.heap.size (some r) (fun q=>some q)) w' (aC (fun u=>(qM tg t0 u).kill [d,r] [r]) [(d,eZ (Y.S++CT.roSs cr) sg.res),(r,.box (CT.mapSs (fun _=>Y.S++CT.roSs cr) (CT.unpins cs)))])
     (aC sv [(d,jB res sg.res),(r,.v oo [])]) (upd (gm a) d vv) r (.box (CT.mapSs (fun _=>Y.S++CT.roSs cr) (CT.unpins cs))):=by
    simp only [TR];refine ⟨oo,b',by simp [aC,fZ],by rw [upd_ne _ _ _ fZ,<-CO,o1],o2,hko,by rw [gM,iY];exact o4,gK (Hw MM.2),?_⟩;refine gH (f:=fun _=>Y.S++CT.roSs cr) (P:=fun S=>∀r,r∈S->∃pm,sg.ps[r]?=some pm/\pm.mut=false) (κ:=κ') (w:=w') (κ':=gN (zD t0 r cr.length κ) (fV (zD t0 r cr.length κ) (some r) (MP j j2 cr.length) (Y.S++CT.roSs cr)) κ' sg.ps.length d w.heap.size (some r) (fun q=>some q)) (w':=w') (p':=(r,[])) (j':=0) (get':=cellD w' b') (fun S hS b hb=>⟨qB.res_ro hS hb,Same.refl w' b⟩) (Db.2 (by rw [axt];simp)) (fun i hi b2 q hb=>⟨?_,Same.refl w' b2⟩) (fun i hi=>rfl) (gI.2 o5)
    ·unfold gN;rw [hb];simp only;rw [if_neg (by omega),if_neg (by omega)]
   have jA:=I4 BS qB hdN (fun u hu=>by cases hu;exact ⟨sM,fZ⟩) (v:=vv) (tg':=aC (fun u=>(qM tg t0 u).kill [d,r] [r]) [(d,eZ (Y.S++CT.roSs cr) sg.res),(r,.box (CT.mapSs (fun _=>Y.S++CT.roSs cr) (CT.unpins cs)))]) (sv':=aC sv [(d,jB res sg.res),(r,.v oo [])])
    (fun u hu bv=>by
     have BR:u≠r:=fun he=>bv (by rw [he])
     simp only [aC,if_neg hu,if_neg BR];rfl) (fun u hu bv=>by
     have BR:u≠r:=fun he=>bv (by rw [he])
     simp only [aC,if_neg hu,if_neg BR]) (by
     have:=qB.tr (ac:=ac) kW lG (aC (fun u=>(qM tg t0 u).kill [d,r] [r]) [(d,eZ (Y.S++CT.roSs cr) sg.res),(r,.box (CT.mapSs (fun _=>Y.S++CT.roSs cr) (CT.unpins cs)))]) (aC sv [(d,jB res sg.res),(r,.v oo [])]) (upd (gm a) d vv) (by simp [aC]) (by simp [upd])
     simpa [aC] using this) (fun u hu=>by
     cases hu
     have:aC (fun u=>(qM tg t0 u).kill [d,r] [r]) [(d,eZ (Y.S++CT.roSs cr) sg.res),(r,.box (CT.mapSs (fun _=>Y.S++CT.roSs cr) (CT.unpins cs)))] r = .box (CT.mapSs (fun _=>Y.S++CT.roSs cr) (CT.unpins cs)):=by simp [aC,fZ]
     rw [this];exact fF)
   have hR3:=agv (tg2:=aC (fun u=>(qM tg t0 u).killS r [d,r] [r]) [(d,eZ (Y.S++CT.roSs cr) sg.res),(r,.box (CT.mapSs (fun _=>Y.S++CT.roSs cr) (CT.unpins cs)))]) BS jA (r:=r) (mods:=[d,r]) (M:=[r]) (X:=[d,r]) (by simp) (fun u hu=>by
    simp only [aY,nD,or_false,not_or] at hu
    simp [aC,upd,hu.1,hu.2]) (fun u hu=>by
    simp only [aY,nD,or_false] at hu
    rcases hu with rfl|rfl
    ·simp [aC]
    ·simp [aC,fZ]) (fun hb=>⟨⟨_,by simp [aC,fZ];rfl⟩,by simp [upd,fZ]⟩)
   refine bT vv w' _ _ _ (by rw [hd,qf (a:=a) (by rw [hN];exact hdN)];exact hR3) (fun u => ?_) (fun u=>by simp [aC]);simp only [aC];by_cases h1:u=d
   ·simp [h1]
   ·by_cases h2:u=r
    ·simp [h2,fZ]
    ·by_cases h3:u=t0
     ·simp [h1,h2,h3,aGz,aGA,qM,TT.killS,TT.kill]
     ·simp [h1,h2,h3,qM]
end Go.Fw
namespace Go.Fw
structure bR where
 n:Nat
 up:Nat->List (Nat × TT)
 dst:Nat->Option Nat
 bef:Nat->Nat->Bool
 D0:Nat->TT
 s0:Nat->AV
 wn:Nat->Bool
 vv:Nat->List AV
 np:Nat->Bool
 px:Nat->Value
namespace bR
variable (r:bR)
def Wd (k t:Nat):Prop:=t∈(r.up k).map (·.1)\/r.dst k=some t
def sS (k:Nat) (f:Nat->AV):Nat->AV:=if r.wn k then aC f (((r.up k).map (·.1)).zip (r.vv k)) else f
def dS (k:Nat) (f:Nat->TT):Nat->TT:=if r.wn k then aC f (r.up k) else fun t=>if r.dst k=some t then .dead else f t
def sL (L:Nat->Bool):Nat->Nat->AV
 | 0=>r.s0
 | k+1=>if L k then r.sS k (sL L k) else sL L k
def dL (L:Nat->Bool):Nat->Nat->TT
 | 0=>r.D0
 | k+1=>if L k then r.dS k (dL L k) else dL L k
theorem upds_out {α:Type} {f:Nat->α} {l:aa (Nat × α)} {t:Nat} (h:t∉l.map (·.1)):aC f l t=f t:=by
 induction l with
 | nil=>rfl
 | cons p l ih=>
  simp only [bf,aY,not_or] at h;simp only [aC,if_neg h.1,ih h.2]
theorem upds_in {α:Type} {f g:Nat->α} {l:aa (Nat × α)} {t:Nat} (h:t∈l.map (·.1)):aC f l t=aC g l t:=by
 induction l with
 | nil=>simp at h
 | cons p l ih=>
  simp only [bf,aY] at h;simp only [aC];split
  ·rfl
  ·rename_i bv;exact ih (h.resolve_left bv)
theorem zip_mem {α β:Type} {l:aa α} {v:aa β} {t:α} (h:t∈(l.zip v).map (·.1)):t∈l:=by
 obtain ⟨p,hp,rfl⟩:=cK.1 h;obtain ⟨a,b⟩:=p;exact (List.of_mem_zip hp).1
variable {r}
theorem sS_out {k t:Nat} {f:Nat->AV} (h:¬r.Wd k t):r.sS k f t=f t:=by
 simp only [Wd,not_or] at h;unfold sS;split
 ·exact upds_out fun hm=>h.1 (zip_mem hm)
 ·rfl
theorem dS_out {k t:Nat} {f:Nat->TT} (h:¬r.Wd k t):r.dS k f t=f t:=by
 simp only [Wd,not_or] at h;unfold dS;split
 ·exact upds_out h.1
 ·simp only [if_neg h.2]
theorem D9 {k t:Nat} {f g:Nat->AV} (h:f t=g t):r.sS k f t=r.sS k g t:=by
 unfold sS;split
 ·by_cases hm:t∈(((r.up k).map (·.1)).zip (r.vv k)).map (·.1)
  ·exact upds_in hm
  ·rw [upds_out hm,upds_out hm,h]
 ·exact h
theorem D_ {k t:Nat} {f g:Nat->TT} (h:f t=g t):r.dS k f t=r.dS k g t:=by
 unfold dS;split
 ·by_cases hm:t∈(r.up k).map (·.1)
  ·exact upds_in hm
  ·rw [upds_out hm,upds_out hm,h]
 ·simp only [h]
def lt (i:Nat):Nat->Bool:=fun j=>decide (j<i)
def ins (L:Nat->Bool) (i:Nat):Nat->Bool:=fun j=>j == i || L j
theorem s_loc {L:Nat->Bool} {i t:Nat} (hb:∀j k,r.bef j k=true->j<k) (iB:∀j k,r.bef j k=true->L k=true->L j=true) (hi:L i=false) (hr:∀j,r.bef j i=true->L j=true)
  (ho:∀j,j<r.n->r.Wd j t->r.bef j i=true\/r.bef i j=true\/j=i):∀k,k<=r.n->r.sL L k t=r.sL (lt i) (min k i) t:=by
 intro k;induction k with
 | zero=>intro _;simp [sL]
 | succ k ih=>
  intro hk;have ih:=ih (by omega);simp only [sL];by_cases hw:r.Wd k t
  ·rcases ho k (by omega) hw with h1|h1|h1
   ·have bZ:=hb k i h1;rw [hr k h1,if_pos rfl,show min (k+1) i=min k i+1 from by omega,show min k i=k from by omega];simp only [sL,lt,bZ,decide_true,if_true];rw [show min k i=k from by omega] at ih;exact D9 ih
   ·have bZ:=hb i k h1;have hL:L k=false:=by
     cases hL:L k with
     | false=>rfl
     | true=>rw [iB i k h1 hL] at hi;cases hi
    rw [hL,if_neg (by simp),ih];congr 1;omega
   ·subst h1;rw [hi,if_neg (by simp),ih];congr 1;omega
  ·have h1:(if L k then r.sS k (r.sL L k) else r.sL L k) t=r.sL L k t:=by
    split
    ·exact sS_out hw
    ·rfl
   rw [h1,ih];by_cases N9:k<i
   ·rw [show min (k+1) i=k+1 from by omega,show min k i=k from by omega];simp only [sL];split
    ·rw [sS_out hw]
    ·rfl
   ·congr 1;omega
theorem d_loc {L:Nat->Bool} {i t:Nat} (hb:∀j k,r.bef j k=true->j<k) (iB:∀j k,r.bef j k=true->L k=true->L j=true) (hi:L i=false) (hr:∀j,r.bef j i=true->L j=true)
  (ho:∀j,j<r.n->r.Wd j t->r.bef j i=true\/r.bef i j=true\/j=i):∀k,k<=r.n->r.dL L k t=r.dL (lt i) (min k i) t:=by
 intro k;induction k with
 | zero=>intro _;simp [dL]
 | succ k ih=>
  intro hk;have ih:=ih (by omega);simp only [dL];by_cases hw:r.Wd k t
  ·rcases ho k (by omega) hw with h1|h1|h1
   ·have bZ:=hb k i h1;rw [hr k h1,if_pos rfl,show min (k+1) i=min k i+1 from by omega,show min k i=k from by omega];simp only [dL,lt,bZ,decide_true,if_true];rw [show min k i=k from by omega] at ih;exact D_ ih
   ·have bZ:=hb i k h1;have hL:L k=false:=by
     cases hL:L k with
     | false=>rfl
     | true=>rw [iB i k h1 hL] at hi;cases hi
    rw [hL,if_neg (by simp),ih];congr 1;omega
   ·subst h1;rw [hi,if_neg (by simp),ih];congr 1;omega
  ·have h1:(if L k then r.dS k (r.dL L k) else r.dL L k) t=r.dL L k t:=by
    split
    ·exact dS_out hw
    ·rfl
   rw [h1,ih];by_cases N9:k<i
   ·rw [show min (k+1) i=k+1 from by omega,show min k i=k from by omega];simp only [dL];split
    ·rw [dS_out hw]
    ·rfl
   ·congr 1;omega
theorem s_ins {L:Nat->Bool} {i:Nat} (hi:L i=false) (RG:∀j t,i<j->j<r.n->L j=true->¬(r.Wd i t/\r.Wd j t)) :
  ∀k,k<=r.n->∀t,r.sL (ins L i) k t=if i<k then r.sS i (r.sL L k) t else r.sL L k t:=by
 intro k;induction k with
 | zero=>intro _ t;simp [sL]
 | succ k ih=>
  intro hk t;have ih:=ih (by omega);simp only [sL];by_cases N9:k=i
  ·subst N9;rw [show ins L k k=true from by simp [ins],if_pos rfl,hi,if_pos (by omega),if_neg (by simp)];refine D9 ?_;rw [ih t,if_neg (by omega)]
  ·have axu:ins L i k=L k:=by simp [ins,N9]
   rw [axu];by_cases hL:L k=true
   ·rw [if_pos hL,if_pos hL];by_cases bZ:i<k
    ·rw [if_pos (by omega)];by_cases hw:r.Wd k t
     ·have hn:¬r.Wd i t:=fun rC=>RG k t bZ (by omega) hL ⟨rC,hw⟩
      rw [sS_out hn];refine D9 ?_;rw [ih t,if_pos bZ,sS_out hn]
     ·rw [sS_out hw,ih t,if_pos bZ];refine D9 ?_;rw [sS_out hw]
    ·rw [if_neg (by omega)];refine D9 ?_;rw [ih t,if_neg bZ]
   ·rw [if_neg hL,if_neg hL];rw [ih t];by_cases bZ:i<k
    ·rw [if_pos bZ,if_pos (by omega)]
    ·rw [if_neg bZ,if_neg (by omega)]
theorem d_ins {L:Nat->Bool} {i:Nat} (hi:L i=false) (RG:∀j t,i<j->j<r.n->L j=true->¬(r.Wd i t/\r.Wd j t)) :
  ∀k,k<=r.n->∀t,r.dL (ins L i) k t=if i<k then r.dS i (r.dL L k) t else r.dL L k t:=by
 intro k;induction k with
 | zero=>intro _ t;simp [dL]
 | succ k ih=>
  intro hk t;have ih:=ih (by omega);simp only [dL];by_cases N9:k=i
  ·subst N9;rw [show ins L k k=true from by simp [ins],if_pos rfl,hi,if_pos (by omega),if_neg (by simp)];refine D_ ?_;rw [ih t,if_neg (by omega)]
  ·have axu:ins L i k=L k:=by simp [ins,N9]
   rw [axu];by_cases hL:L k=true
   ·rw [if_pos hL,if_pos hL];by_cases bZ:i<k
    ·rw [if_pos (by omega)];by_cases hw:r.Wd k t
     ·have hn:¬r.Wd i t:=fun rC=>RG k t bZ (by omega) hL ⟨rC,hw⟩
      rw [dS_out hn];refine D_ ?_;rw [ih t,if_pos bZ,dS_out hn]
     ·rw [dS_out hw,ih t,if_pos bZ];refine D_ ?_;rw [dS_out hw]
    ·rw [if_neg (by omega)];refine D_ ?_;rw [ih t,if_neg bZ]
   ·rw [if_neg hL,if_neg hL];rw [ih t];by_cases bZ:i<k
    ·rw [if_pos bZ,if_pos (by omega)]
    ·rw [if_neg bZ,if_neg (by omega)]
end bR
end Go.Fw
namespace Go.Fw
structure Sn (P:Program) (N:Nat) (ops:Array Oper) (St:Nat->Stp) (r:bR):Prop where
 n:r.n=ops.size
 up:∀i,i<r.n->∃ks:List Nat,r.up i=(St i).up++ks.map fun t=>(t,.dead)
 dst:∀i o,ops[i]?=some o->r.dst i=o.dst
 lt:∀j k,r.bef j k=true->j<k
 disj:∀i j t,i<j->j<r.n->r.bef i j=false->¬(r.Wd i t/\r.Wd j t)
 guard:∀i o j b,ops[i]?=some o->o.guard=some (j,b)->r.bef j i=true/\∃t,r.dst j=some t/\(∀k,k<r.n->r.Wd k t->k=j)/\(r.wn j=true->r.dL (bR.lt i) i t = .val false [.d])
 wn:∀i o,ops[i]?=some o->r.wn i=match o.guard with
  | none=>true
  | some (j,b)=>r.wn j&&(match r.dst j with
   | some t=>(match r.sL (bR.lt i) i t with
    | .v [.v (.bool c)] _=>c == b
    | _=>false)
   | none=>false)
 kill:∀i,i<r.n->r.wn i=true->∀t,t∉(r.up i).map (·.1)->(St i).kl (r.D0 t)=r.D0 t/\∀j,j<r.n->j≠i->r.bef i j=false->∀T,(t,T)∈r.up j->(St i).kl T=T
 killu:∀i,i<r.n->r.wn i=false->∀d,r.dst i=some d->∀t,t≠d->(r.D0 t).kill [d] []=r.D0 t/\∀j,j<r.n->j≠i->r.bef i j=false->∀T,(t,T)∈r.up j->T.kill [d] []=T
 step:∀i o,ops[i]?=some o->r.wn i=true->∃g,d_ P N o g (St i)/\(∀t,g t = .dead\/(g t=r.dL (bR.lt i) i t/\∀j,j<r.n->r.Wd j t->r.bef j i=true\/r.bef i j=true\/j=i)) /\
  ∀t,t∈(St i).up.map (·.1)->t∉(((St i).up.map (·.1)).zip (r.vv i)).map (·.1)->aC (fun _=>.dead) (St i).up t = .dead\/g t≠.dead
 rel:∀i,i<r.n->r.wn i=true->(St i).eff.rel P (r.sL (bR.lt i) i) (r.vv i)/\(r.vv i).length<=(St i).up.length
 unw:∀i,i<r.n->∀d,r.dst i=some d->d<N/\r.np d=false
structure RInv (ac:Nat->Nat->Value) (κ0:aP) (w0:World) (N:Nat) (r:bR) (L:Nat->Bool) (a:Act) (w:World):Prop where
 st:∃κ tg sv,R ac κ0 w0 κ w N tg sv (gm a)/\Le (r.dL L r.n) (r.sL L r.n) tg sv
 size:a.tmps.size=N
 defers:a.defers=[]
 par:∀i,r.np i=true->gm a i=r.px i
 und:∀j t,j<r.n->L j=true->r.wn j=false->r.dst j=some t->(∀k,k<r.n->r.Wd k t->k=j)->gm a t=undef
theorem I5 {α β:Type}:∀{l m:aa α} {v:aa β},v.length<=l.length->(l++m).zip v=l.zip v
 | [],m,[],_=>by cases m<;>rfl
 | [],_,_::_,h=>by simp at h
 | a::l,m,[],_=>by simp
 | a::l,m,b::v,h=>by simp only [nC,J7];rw [I5 (by simpa using h)]
theorem Ea {α:Type} (f:Nat->α):∀(l m:aa (Nat × α)) (t:Nat),aC f (l++m) t=aC (aC f m) l t
 | [],m,t=>rfl
 | (d,x)::l,m,t=>by simp only [nC,aC];rw [Ea f l m t]
theorem amf (f:Nat->TT):∀(ks:aa Nat) (t:Nat),t∈ks->aC f (ks.map fun t=>(t,TT.dead)) t = .dead
 | k::ks,t,h=>by
  simp only [bf,aC];split
  ·rfl
  ·rename_i bv;exact amf f ks t ((aY.1 h).resolve_left bv)
 | [],_,h=>by simp at h
theorem ahc {r:bR} {L:Nat->Bool} {t:Nat}:∀k,k<=r.n->r.dL L k t = .dead\/r.dL L k t=r.D0 t\/∃j,j<r.n/\L j=true/\(t,r.dL L k t)∈r.up j:=by
 intro k;induction k with
 | zero=>intro _;right;left;rfl
 | succ k ih=>
  intro hk;simp only [bR.dL];split
  ·rename_i hL;unfold bR.dS;split
   ·by_cases hm:t∈(r.up k).map (·.1)
    ·right;right;refine ⟨k,by omega,hL,?_⟩;generalize r.dL L k=f;generalize r.up k=l at hm;induction l with
     | nil=>simp at hm
     | cons p l ihl=>
      simp only [aC];by_cases hp:t=p.1
      ·rw [if_pos hp,hp];exact dX
      ·rw [if_neg hp];simp only [bf,aY] at hm;exact dU _ (ihl (hm.resolve_left hp))
    ·rw [bR.upds_out hm];exact ih (by omega)
   ·simp only;split
    ·exact .inl rfl
    ·exact ih (by omega)
  ·exact ih (by omega)
theorem ahd (a:Act) (d:ah Tmp) (x:aj):(a.put d x).tmps.size=a.tmps.size:=by cases d<;>simp [Act.put]
theorem put_defers (a:Act) (d:ah Tmp) (x:aj):(a.put d x).defers=a.defers:=by cases d<;>rfl
section
variable {P:aR} {ac:Nat->Nat->aj} {κ0:aP} {w0:aA} {N:Nat} {ops:Array bS} {St:Nat->Stp} {r:bR} {Q:Exit->Act->aA->Prop}
theorem adj {a:Act} {d:ah Tmp} {x:aj} {t:Nat} (h:d≠some t):gm (a.put d x) t=gm a t:=by
 cases d with
 | none=>rfl
 | some d=>
  have:t≠d:=fun he=>h (by rw [he])
  simp [gm,Act.put,rG,abN,ig this]
theorem ast (a_:Sn P N ops St r) {L:Nat->Bool} {a:Act} {w:aA} (wm:RInv ac κ0 w0 N r L a w) {i:Nat} {o:bS} (ho:ops[i]?=some o) (hi:L i=false)
  (iB:∀j k,r.bef j k=true->L k=true->L j=true) (hr:∀j,r.bef j i=true->L j=true):Region.wanted o (yielded ops a.tmps)=r.wn i:=by
 have bF:i<r.n:=by rw [a_.n];exact (aoB.1 ho).1
 rw [a_.wn i o ho];unfold Region.wanted;cases hg:o.guard with
 | none=>rfl
 | some p=>
  obtain ⟨j,b⟩:=p;obtain ⟨hb,t,hdj,rF,hT⟩:=a_.guard i o j b ho hg;have hjn:j<r.n:=by have:=a_.lt j i hb;omega
  have hjo:∃oj,ops[j]?=some oj/\oj.dst=some t:=by
   have h1:j<ops.size:=by rw [<-a_.n];exact hjn
   exact ⟨ops[j],by simp [h1],by rw [<-a_.dst j _ (by simp [h1])];exact hdj⟩
  obtain ⟨oj,FL,aGC⟩:=hjo;have hyl:yielded ops a.tmps j=match a.tmps[t]? with
   | some (.bool b)=>some b
   | _=>none:=by
   unfold yielded;simp only [FL,aGC,af];cases a.tmps[t]? with
   | none=>rfl
   | some x=>cases x<;>rfl
  simp only [hdj,hyl];cases hw:r.wn j with
  | false=>
   have hu:=wm.und j t hjn (hr j hb) hw hdj rF;simp only [gm,rG] at hu;cases ha:a.tmps[t]? with
   | none=>simp
   | some x=>rw [ha] at hu;simp at hu;subst hu;simp [undef]
  | true=>
   obtain ⟨κ,tg,sv,hR,FM⟩:=wm.st;have WX:∀k,k<r.n->r.Wd k t->r.bef k i=true\/r.bef i k=true\/k=i:=fun k hk rC=>by rw [rF k hk rC];exact .inl hb
   have hd1:=bR.d_loc (r:=r) a_.lt iB hi hr WX r.n (dV _);have lH:=bR.s_loc (r:=r) a_.lt iB hi hr WX r.n (dV _);rw [show min r.n i=i from by omega] at hd1 lH;rw [hT hw] at hd1;obtain ⟨e1,e2⟩:=FM.at hd1 (by simp);have h1:=hR.tr t;rw [e1] at h1;simp only [TR] at h1;obtain ⟨as,vs,g1,g2,g3,_,g5⟩:=h1;rw [e2,lH] at g1;have:=kr g2;subst this;cases as with
   | nil=>simp [aB] at g5
   | cons x as=>
    cases as with
    | cons=>simp [aB] at g5
    | nil=>
     simp only [aB] at g5;cases x with
     | s xs=>simp [RC] at g5
     | v y=>
      simp only [RC,uZ] at g5;obtain ⟨⟨h2,h3⟩,_⟩:=g5;have bZ:t<a.tmps.size:=by
       rw [wm.size];apply sW;intro dD;have:=hR.out t dD;rw [e1] at this;cases this
      have sQ:a.tmps[t]?=some y:=by
       simp only [gm,rG] at h2;rw [Vq bZ] at h2 ⊢;simpa using h2
      rw [sQ,g1];cases y<;>simp [sc] at h3 ⊢
theorem ahe (a_:Sn P N ops St r) {L:Nat->Bool} {a:Act} {w:aA} (wm:RInv ac κ0 w0 N r L a w) {i:Nat} (bF:i<r.n) (hi:L i=false)
  (iB:∀j k,r.bef j k=true->L k=true->L j=true) (hr:∀j,r.bef j i=true->L j=true) (K:Act->aA->Prop) (hK:∀a' w',RInv ac κ0 w0 N r (bR.ins L i) a' w'->K a' w'):wpOp P ops Q i K a w:=by
 have h1:i<ops.size:=by rw [<-a_.n];exact bF
 have ho:ops[i]?=some ops[i]:=by simp [h1]
 unfold wpOp;rw [ho];simp only;rw [ast a_ wm ho hi iB hr];have RG:∀j t,i<j->j<r.n->L j=true->¬(r.Wd i t/\r.Wd j t):=fun j t wU hj hL=>by
  refine a_.disj i j t wU hj ?_;cases hb:r.bef i j with
  | false=>rfl
  | true=>rw [iB i j hb hL] at hi;cases hi
 have hsi:=fun t=>bR.s_ins (r:=r) hi RG r.n (dV _) t
 have hdi:=fun t=>bR.d_ins (r:=r) hi RG r.n (dV _) t
 simp only [if_pos bF] at hsi hdi;obtain ⟨κ,tg,sv,hR,FM⟩:=wm.st;have MN:=a_.dst i _ ho;have arN:∀x j,r.np j=true->gm (a.put ops[i].dst x) j=r.px j:=by
  intro x j hj;rw [adj (fun he=>by
   have:=(a_.unw i bF j (by rw [MN,he])).2
   rw [this] at hj;cases hj)]
  exact wm.par j hj
 -- what was not run stays so
 have aC6:∀x j t,j<r.n->bR.ins L i j=true->r.wn j=false->r.dst j=some t->(∀k,k<r.n->r.Wd k t->k=j)->(j=i->x=undef)->gm (a.put ops[i].dst x) t=undef:=by
  intro x j t hj J2 hwj hd rF hx;by_cases iE:j=i
  ·subst iE;rw [hx rfl,<-MN,hd,qf (by rw [wm.size];exact (a_.unw j hj t hd).1),bI]
  ·have bv:ops[i].dst≠some t:=fun he=>iE (rF i bF (.inr (by rw [MN,he]))).symm
   rw [adj bv];refine wm.und j t hj ?_ hwj hd rF;have:(j == i)=false:=by simpa using iE
   simpa [bR.ins,this] using J2
 cases hw:r.wn i with
 | false=>
  simp only [eQ,if_false];refine hK _ _ ⟨?_,by rw [ahd];exact wm.size,by rw [put_defers];exact wm.defers,arN undef,fun j t hj J2 hwj hd rF=>aC6 undef j t hj J2 hwj hd rF fun _=>rfl⟩;cases hd:r.dst i with
  | none=>
   rw [hd] at MN;refine ⟨κ,tg,sv,by rw [<-MN,D8];exact hR,fun t => ?_⟩;rw [hdi t,hsi t];simp only [bR.dS,bR.sS,hw,hd,eQ,if_false];simpa using FM t
  | some d=>
   rw [hd] at MN;have hdN:=(a_.unw i bF d hd).1;refine ⟨_,_,_,by rw [<-MN,qf (by rw [wm.size];exact hdN)];exact asb hR hdN (av:=.n) (x:=undef) (Grows.refl w),fun t => ?_⟩;rw [hdi t,hsi t];simp only [bR.dS,bR.sS,hw,hd,eQ,if_false,kI,upd];by_cases fZ:t=d
   ·subst fZ;exact .inl (by simp)
   ·rw [if_neg fZ,if_neg fZ,if_neg (fun he=>fZ (Aq he).symm)];have hku:=a_.killu i bF hw d hd t fZ;have tZ:=ahc (r:=r) (L:=L) (t:=t) r.n (dV _);rcases FM t with h2|⟨h2,h3⟩
    ·exact .inl h2
    ·rcases tZ with h4|h4|⟨j,hj,J2,h4⟩
     ·exact .inl h4
     ·right;refine ⟨?_,h3⟩;rw [<-h2,h4,hku.1]
     ·right;refine ⟨?_,h3⟩;have iE:j≠i:=fun he=>by rw [he,hi] at J2;cases J2
      have hbf:r.bef i j=false:=by
       cases hb:r.bef i j with
       | false=>rfl
       | true=>rw [iB i j hb J2] at hi;cases hi
      rw [<-h2,hku.2 j hj iE hbf _ h4]
 | true=>
  simp only [if_true];left;obtain ⟨g,aGD,hg,hto⟩:=a_.step i _ ho hw;obtain ⟨ky,CL⟩:=a_.rel i bF hw;have WX:=fun t ht=>bR.d_loc (r:=r) (t:=t) a_.lt iB hi hr ht r.n (dV _)
  have aC8:=fun t ht=>bR.s_loc (r:=r) (t:=t) a_.lt iB hi hr ht r.n (dV _)
  rw [show min r.n i=i from by omega] at WX aC8;have hLg:Le g (r.sL (bR.lt i) i) tg sv:=fun t=>by
   rcases hg t with h2|⟨h2,h3⟩
   ·exact .inl h2
   ·rcases FM t with h4|⟨h4,h5⟩
    ·left;rw [h2,<-WX t h3,h4]
    ·right;exact ⟨by rw [h2,<-WX t h3,h4],by rw [<-aC8 t h3,h5]⟩
  refine aGD ac κ0 κ w0 w tg sv _ a (r.vv i) _ Q wm.size hR hLg ky fun x w' κ' tg' sv' jA sK jJ => ?_
  refine hK _ _ ⟨⟨κ',tg',sv',jA,fun t => ?_⟩,by rw [ahd];exact wm.size,by rw [put_defers];exact wm.defers,arN x,fun j t hj J2 hwj hd rF=>aC6 x j t hj J2 hwj hd rF fun he=>by rw [he,hw] at hwj;cases hwj⟩;rw [hdi t,hsi t];simp only [bR.dS,bR.sS,hw,if_true];obtain ⟨ks,hks⟩:=a_.up i bF;rw [sK t,jJ t];have aGE:((r.up i).map (·.1)).zip (r.vv i)=((St i).up.map (·.1)).zip (r.vv i):=by
   rw [hks,wV];exact I5 (by simpa using CL)
  rw [aGE];by_cases hm:t∈(r.up i).map (·.1)
  ·rw [hks] at hm ⊢;rw [Ea];by_cases hm1:t∈(St i).up.map (·.1)
   ·have ht:aC (aC (r.dL L r.n) (ks.map fun t=>(t,TT.dead))) (St i).up t=aC (fun t=>(St i).kl (tg t)) (St i).up t:=bR.upds_in hm1;by_cases hz:t∈(((St i).up.map (·.1)).zip (r.vv i)).map (·.1)
    ·exact .inr ⟨ht,bR.upds_in hz⟩
    ·rcases hto t hm1 hz with h2|h2
     ·left;rw [<-h2];exact bR.upds_in hm1
     ·right;refine ⟨ht,?_⟩;rw [bR.upds_out hz,bR.upds_out hz];rcases hg t with h3|⟨h3,h4⟩
      ·exact absurd h3 h2
      ·rcases FM t with h5|h5
       ·exact absurd (by rw [h3,<-WX t h4,h5]) h2
       ·exact h5.2
   ·left;rw [bR.upds_out hm1];refine amf _ ks t ?_;rw [wV,bP] at hm;simpa using hm.resolve_left hm1
  ·have Ob:t∉(St i).up.map (·.1):=fun h=>hm (by rw [hks,wV,bP];exact .inl h)
   rw [bR.upds_out hm,bR.upds_out Ob,bR.upds_out (fun h=>Ob (bR.zip_mem h)),bR.upds_out (fun h=>Ob (bR.zip_mem h))];have hku:=a_.kill i bF hw t hm;have tZ:=ahc (r:=r) (L:=L) (t:=t) r.n (dV _);rcases FM t with h2|⟨h2,h3⟩
   ·exact .inl h2
   ·rcases tZ with h4|h4|⟨j,hj,J2,h4⟩
    ·exact .inl h4
    ·right;refine ⟨?_,h3⟩;rw [<-h2,h4,hku.1]
    ·right;refine ⟨?_,h3⟩;have iE:j≠i:=fun he=>by rw [he,hi] at J2;cases J2
     have hbf:r.bef i j=false:=by
      cases hb:r.bef i j with
      | false=>rfl
      | true=>rw [iB i j hb J2] at hi;cases hi
     rw [<-h2,hku.2 j hj iE hbf _ h4]
end
end Go.Fw
namespace Go.Fw
theorem ahf (S:aa Nat):meets S []=false:=by simp [meets]
theorem azS (T:TT):T.kill [] []=T:=by
 cases T with
 | alias ag cs r sk off S=>
  have:=ac0.mens_nil cs;simp [TT.kill,ahf,this]
 | ptr r sk off S=>simp [TT.kill,ahf]
 | val=>simp [TT.kill,Kh]
 | box=>simp [TT.kill,Kh]
 | tup=>simp [TT.kill,Kh]
 | dead=>simp [TT.kill]
section
variable {P:aR} {ac:Nat->Nat->aj} {κ0 κ:aP} {w0 w:aA} {N:Nat} {tg:Nat->TT} {sv:Nat->AV} {tm:Nat->aj}
theorem asu {w w':aA} {S:aa Nat} {b:Nat} (hw:w'.heap=w.heap) (h:bu κ w S b):bu κ w' S b:=⟨by rw [hw];exact h.1,h.2⟩
theorem aBc (h:R ac κ0 w0 κ w N tg sv tm) {w':aA} (hh:w'.heap=w.heap) (ho:w'.os=w.os) (hu:w'.output=w.output) (ht:w'.tape=w.tape):R ac κ0 w0 κ w' N tg sv tm:=by
 have hs:∀b,Same w w' b:=fun b=>⟨fun hb=>by rw [hh];exact hb,fun o x hx=>by
  simp only [World.cell?,World.frozen?,hh] at hx ⊢
  exact ⟨hx,trivial⟩⟩
 refine uy (mods:=[]) (M:=[]) h (by simp) (fun S _ b hb=>⟨asu hh hb,hs b⟩) (fun b r q _ hb=>⟨rfl,hs b⟩) (fun r _=>.inl (azS _).symm) (fun _ _=>rfl) (fun _ _=>rfl) (fun t ht=>by simp at ht) h.out (fun b hb=>h.col b (by rw [<-hh];exact hb)) ?_;exact ⟨by rw [hh];exact h.fr.size,fun b hb h0=>by rw [hh];exact h.fr.kept b hb h0,by rw [ho];exact h.fr.os,by rw [hu];exact h.fr.out,by rw [ht];exact h.fr.tape⟩
end
namespace bR
variable {r:bR}
theorem sL_congr {L L':Nat->Bool} (n:Nat) (h:∀j,j<n->L j=L' j):r.sL L n=r.sL L' n:=by
 induction n with
 | zero=>rfl
 | succ n ih=>simp only [sL];rw [ih fun j hj=>h j (by omega),h n (by omega)]
theorem dL_congr {L L':Nat->Bool} (n:Nat) (h:∀j,j<n->L j=L' j):r.dL L n=r.dL L' n:=by
 induction n with
 | zero=>rfl
 | succ n ih=>simp only [dL];rw [ih fun j hj=>h j (by omega),h n (by omega)]
theorem sL_none (n:Nat) {L:Nat->Bool} (h:∀j,j<n->L j=false):r.sL L n=r.s0:=by
 induction n with
 | zero=>rfl
 | succ n ih=>simp only [sL];rw [h n (by omega),if_neg (by simp)];exact ih fun j hj=>h j (by omega)
theorem dL_none (n:Nat) {L:Nat->Bool} (h:∀j,j<n->L j=false):r.dL L n=r.D0:=by
 induction n with
 | zero=>rfl
 | succ n ih=>simp only [dL];rw [h n (by omega),if_neg (by simp)];exact ih fun j hj=>h j (by omega)
theorem ins_lt (k:Nat):ins (lt k) k=lt (k+1):=by
 funext j;simp only [ins,lt];by_cases h:j=k
 ·subst h;simp
 ·have:(j == k)=false:=by simpa using h
  rw [this,DW];congr 1;simp only [eq_iff_iff];omega
end bR
section
variable {P:aR} {ac:Nat->Nat->aj} {κ0:aP} {w0:aA} {N:Nat} {ops:Array bS} {St:Nat->Stp} {r:bR} {Q:Exit->Act->aA->Prop}
theorem RInv.congr {L L':Nat->Bool} {a:Act} {w:aA} (h:RInv ac κ0 w0 N r L a w) (hL:∀j,j<r.n->L j=L' j):RInv ac κ0 w0 N r L' a w:=by
 refine ⟨?_,h.size,h.defers,h.par,fun j t hj hl hw hd ho=>h.und j t hj (by rw [hL j hj];exact hl) hw hd ho⟩;rw [<-bR.dL_congr (r:=r) r.n hL,<-bR.sL_congr (r:=r) r.n hL];exact h.st
theorem ahg (a_:Sn P N ops St r) (hQ:∀a w,RInv ac κ0 w0 N r (bR.lt r.n) a w->Q .normal a w) :
  ∀(m k:Nat) (a:Act) (w:aA),k+m=r.n->RInv ac κ0 w0 N r (bR.lt k) a w->wpOps P ops Q (List.range' k m) a w
 | 0,k,a,w,hk,h=>by
  simp only [List.range',wpOps];exact hQ a w (by rw [show r.n=k from by omega];exact h)
 | m+1,k,a,w,hk,h=>by
  rw [List.range'_succ,wpOps_cons];refine ahe a_ h (i:=k) (by omega) (by simp [bR.lt]) (fun j k' hb hl => ?_) (fun j hb => ?_) _ fun a' w' h' => ?_
  ·have:=a_.lt j k' hb;simp only [bR.lt,decide_eq_true_eq] at hl ⊢;omega
  ·have:=a_.lt j k hb;simp only [bR.lt,decide_eq_true_eq];omega
  ·rw [bR.ins_lt] at h';exact ahg a_ hQ m (k+1) a' w' (by omega) h'
end
end Go.Fw
namespace Go.Fw
def agx (o:bS):Bool:=match o.op with
 | .extract (.tmp _) _=>true
 | .move _=>true
 | _=>false
theorem afR {P:aR} {ops:Array bS} {i:Nat} {o:bS} {a:Act} {w:aA} {K:Act->aA->Prop} (hi:ops[i]?=some o) (hx:agx o=true) (hg:o.guard=none)
  (h:wpOp P ops (fun _ _ _=>False) i K a w):∃v,Yields P ops o v a/\K (a.put o.dst v) w:=by
 have hwt:Region.wanted o (yielded ops a.tmps)=true:=by simp [Region.wanted,hg]
 unfold wpOp at h;simp only [hi,hwt,if_true] at h;have h:o.wp P a w K (fun _ _ _=>False):=by
  rcases h with h|⟨_,_,_,h⟩
  ·exact h
  ·exact h.elim
 unfold agx at hx;split at hx;case h_3=>cases hx
 case h_2 x ng=>
  have hr:∀w,(execOp a.eval o).run P w = .ok (.value (a.eval x)) w:=by
   intro w;unfold execOp;rw [ng];rfl
  unfold Oper.wp at h;rw [hr w] at h;exact ⟨_,.inl ⟨hwt,hr⟩,h⟩
 case h_1 t n ng=>
 have pO:execOp a.eval o=(do pure (Next.value (<-Instr.extract (a.eval (.tmp t)) n)):Sem Next):=by
  unfold execOp;rw [ng]
 unfold Oper.wp at h;rw [pO] at h;cases hv:a.eval (.tmp t) with
 | tuple xs=>
  cases hn:xs[n]? with
  | some v=>
   have hr:∀w,(execOp a.eval o).run P w = .ok (.value v) w:=by
    intro w;rw [pO,hv];refine dG ?_;unfold Instr.extract;simp only [hn];rfl
   have h2:=hr w;rw [pO] at h2;rw [h2] at h;exact ⟨v,.inl ⟨hwt,hr⟩,h⟩
  | none=>
   rw [hv] at h;unfold Instr.extract at h;simp only [hn] at h;exact h.elim
 | _=>
  rw [hv] at h;exact h.elim
section
variable {P:aR} {ac:Nat->Nat->aj} {κ0:aP} {w0:aA} {N:Nat} {ops:Array bS} {St:Nat->Stp} {r:bR} {Q:Exit->Act->aA->Prop}
theorem av5 (a_:Sn P N ops St r) (eg:Nat->Bool)
  (hbd:∀i o j,ops[i]?=some o->r.bef j i=true->(∃e,e∈o.after/\Region.binds .any e=true/\(e.on=j\/r.bef j e.on=true)) \/
   (j<i/\eg j=true/\∀oj,ops[j]?=some oj->∀e,e∈oj.after->Region.binds .any e=true->∃e',e'∈o.after/\Region.binds .any e'=true/\(e'.on=e.on\/r.bef e.on e'.on=true)))
  (hae:∀i o e,ops[i]?=some o->e∈o.after->Region.binds .any e=true->e.on<i)
  (heg:∀i o,ops[i]?=some o->eg i=true->agx o=true/\o.guard=none/\∀j oj,ops[j]?=some oj->j≠i->(∀e∈oj.after,Region.binds .any e=true->e.on≠i)->(∀e∈o.after,Region.binds .any e=true->e.on≠j)->o.apart ops oj=true)
  (akn:∀(j:Nat) (o:bS) cs b,ops[j]?=some o->o.op≠.select cs b)
  (aGF:∀c a w,¬Q (.panic c) a w) (hQ:∀a w,RInv ac κ0 w0 N r (bR.lt r.n) a w->Q .normal a w) :
  ∀(fuel:Nat) (listed:Array Bool) (a:Act) (w:aA),listed.size=ops.size->(∀j k,r.bef j k=true->listed.getD k false=true->listed.getD j false=true) ->
   ((List.range ops.size).filter fun j=>!listed.getD j false).length<=fuel->RInv ac κ0 w0 N r (fun j=>listed.getD j false) a w->wpAny P .any ops Q fuel listed a w:=by
 have done:∀(listed:Array Bool) (a:Act) (w:aA),listed.size=ops.size->Region.ready .any ops listed=[]->RInv ac κ0 w0 N r (fun j=>listed.getD j false) a w->Q .normal a w:=by
  intro listed a w dM lI h;have all:∀j,j<ops.size->listed.getD j false=true:=by
   intro j;induction j using Nat.strongRecOn with
   | ind j ih=>
    intro hj;cases hl:listed.getD j false with
    | true=>rfl
    | false=>
     exfalso;have:j∈Region.ready .any ops listed:=by
      rw [mem_ready];refine ⟨?_,ops[j],by simp [hj],fun e he hb => ?_⟩
      ·simp only [rG] at hl ⊢;rw [Vq (by omega)] at hl ⊢;simpa using hl
      ·have bZ:=hae j _ e (by simp [hj]) he hb;exact ih e.on bZ (by omega)
     rw [lI] at this;simp at this
  refine hQ a w (h.congr fun j hj => ?_);rw [all j (by rw [<-a_.n];exact hj)];simp [bR.lt,hj]
 intro fuel;induction fuel with
 | zero=>
  intro listed a w dM iB hf h;have lI:Region.ready .any ops listed=[]:=by
   rw [List.eq_nil_iff_forall_not_mem];intro i hi;rw [mem_ready] at hi;obtain ⟨h1,o,h2,_⟩:=hi;have bF:i<ops.size:=(aoB.1 h2).1;have h3:i∈(List.range ops.size).filter fun j=>!listed.getD j false:=by
    rw [jT,jh];refine ⟨bF,?_⟩;simp only [rG] at h1 ⊢;rw [Vq (by omega)] at h1 ⊢;simpa using h1
   have h4:=nz.1 (Nat.le_zero.1 hf);rw [h4] at h3;simp at h3
  exact ⟨lI,done listed a w dM lI h⟩
 | succ fuel ih=>
  intro listed a w dM iB hf h
  -- one that is ready,ahead of which stand only such as are done
  have go:∀i,i∈Region.ready .any ops listed->(∀j,r.bef j i=true->listed.getD j false=true)->∀(Q':Exit->Act->aA->Prop),wpOp P ops Q' i (wpAny P .any ops Q fuel (listed.setIfInBounds i true)) a w:=by
   intro i hi fe Q';rw [mem_ready] at hi;obtain ⟨h1,o,h2,h3⟩:=hi;have bF:i<ops.size:=(aoB.1 h2).1;have hli:listed.getD i false=false:=by
    simp only [rG] at h1 ⊢;rw [Vq (by omega)] at h1 ⊢;simpa using h1
   refine ahe a_ h (by rw [a_.n];exact bF) hli iB fe _ fun a' w' h' => ?_
   have IK:∀j,(listed.setIfInBounds i true).getD j false=(j == i || listed.getD j false):=by
    intro j;simp only [rG,abN];by_cases iE:i=j
    ·subst iE;simp [show i<listed.size by omega]
    ·have:(j == i)=false:=by simpa using ig iE
     simp [iE,this]
   refine ih _ a' w' (by simpa using dM) (fun j k hb hl => ?_) ?_ (h'.congr fun j _=>by rw [IK j];rfl)
   ·rw [IK] at hl ⊢;simp only [iQ,beq_iff_eq] at hl ⊢;rcases hl with rfl|hl
    ·exact .inr (fe j hb)
    ·exact .inr (iB j k hb hl)
   ·have gX:((List.range ops.size).filter fun j=>!(listed.setIfInBounds i true).getD j false).length<((List.range ops.size).filter fun j=>!listed.getD j false).length:=by
     have h4:((List.range ops.size).filter fun j=>!(listed.setIfInBounds i true).getD j false)=((List.range ops.size).filter fun j=>!listed.getD j false).filter fun j=>!(j == i):=by
      rw [List.filter_filter];congr 1;funext j;rw [IK];cases (j == i)<;>simp
     rw [h4];refine List.length_filter_lt_length_iff_exists.2 ⟨i,?_,by simp⟩;rw [jT,jh];exact ⟨bF,by rw [hli];rfl⟩
    omega
  -- of two of them the first is there,or can be done
  have pair:∀i o j,ops[i]?=some o->i∈Region.ready .any ops listed->j<i->(∀oj,ops[j]?=some oj->∀e,e∈oj.after->Region.binds .any e=true->∃e',e'∈o.after/\Region.binds .any e'=true/\(e'.on=e.on\/r.bef e.on e'.on=true)) ->
    listed.getD j false=false->j∈Region.ready .any ops listed:=by
   intro i o j h2 hi iE hde hl;obtain ⟨h1,o',BQ,h3⟩:=mem_ready.1 hi;rw [h2] at BQ;cases BQ;have ut:j<ops.size:=by
    have:=(aoB.1 h2).1;omega
   rw [mem_ready];refine ⟨?_,ops[j],by simp [ut],fun e he di => ?_⟩
   ·simp only [rG] at hl ⊢;rw [Vq (by omega)] at hl ⊢;simpa using hl
   ·obtain ⟨e',h4,h5,h6⟩:=hde _ (by simp [ut]) e he di;have:=h3 e' h4 h5;rcases h6 with h6|h6
    ·rw [<-h6];exact this
    ·exact iB _ _ h6 this
  by_cases hE:∃i,i∈Region.ready .any ops listed/\eg i=true
  ·-- the first of them
   have acX:∀n,(∃i,i<n/\i∈Region.ready .any ops listed/\eg i=true)->∃i,(i∈Region.ready .any ops listed/\eg i=true)/\∀j,j<i->¬(j∈Region.ready .any ops listed/\eg j=true):=by
    intro n;induction n with
    | zero=>rintro ⟨i,h,_⟩;omega
    | succ n ihn=>
     rintro ⟨i,bZ,h1⟩;by_cases pO:∃i,i<n/\i∈Region.ready .any ops listed/\eg i=true
     ·exact ihn pO
     ·have:i=n:=by
       by_cases bF:i<n
       ·exact absurd ⟨i,bF,h1⟩ pO
       ·omega
      subst this;exact ⟨i,h1,fun j hj hc=>pO ⟨j,hj,hc⟩⟩
   obtain ⟨i0,hi0⟩:=hE;obtain ⟨i,⟨hi,hgi⟩,hm⟩:=acX (i0+1) ⟨i0,by omega,hi0⟩;obtain ⟨h1,o,h2,h3⟩:=mem_ready.1 hi;obtain ⟨hx,BU,hap⟩:=heg i o h2 hgi;have fe:∀j,r.bef j i=true->listed.getD j false=true:=by
    intro j hb;rcases hbd i o j h2 hb with ⟨e,he,hbi,Vk⟩|⟨iE,hgj,hde⟩
    ·have hl:=h3 e he hbi;rcases Vk with rfl|Vk
     ·exact hl
     ·exact iB j e.on Vk hl
    ·cases hl:listed.getD j false with
     | true=>rfl
     | false=>exact absurd ⟨pair i o j h2 hi iE hde hl,hgj⟩ (hm j iE)
   obtain ⟨v,hy,hk⟩:=afR h2 hx BU (go i hi fe _);exact wpAny_first h2 akn (fun c a w h=>absurd h (aGF c _ _)) fuel listed a w (fun j oj hj bv hun gU=>hap j oj hj bv gU fun e he di rE=>by
    have:=h3 e he di
    rw [rE] at this
    rcases Nat.lt_or_ge j listed.size with h'|h'
    ·simp [h'] at this hun;rw [hun] at this;cases this
    ·simp [agu h'] at this) hi hy hk
  ·refine ⟨fun lI=>done listed a w dM lI h,fun i hi => ?_⟩;obtain ⟨h1,o,h2,h3⟩:=mem_ready.1 hi;refine go i hi (fun j hb => ?_) _;rcases hbd i o j h2 hb with ⟨e,he,hbi,Vk⟩|⟨iE,hgj,hde⟩
   ·have hl:=h3 e he hbi;rcases Vk with rfl|Vk
    ·exact hl
    ·exact iB j e.on Vk hl
   ·cases hl:listed.getD j false with
    | true=>rfl
    | false=>exact absurd ⟨j,pair i o j h2 hi iE hde hl,hgj⟩ hE
end
end Go.Fw
namespace Go.Fw
def Eff.pre (f:(Nat->AV)->ah (Nat->AV)):Eff->Eff
 | .det h=>.det fun s=>match f s with
  | some s1=>h s1
  | none=>none
 | .call K sg args post=>.call K sg (fun s=>match f s with
  | some s1=>args s1
  | none=>none) fun res outs s=>match f s with
  | some s1=>post res outs s1
  | none=>none
def F4 (t:Nat) (s:Nat->AV):ah (Nat->AV):=
 match iM t s with
 | some as=>some (upd s t (.v as []))
 | none=>none
theorem Eff.pre_rel {P:aR} {f:(Nat->AV)->ah (Nat->AV)} {E:Eff} {s:Nat->AV} {v:aa AV} (h:(E.pre f).rel P s v):∃s1,f s=some s1/\E.rel P s1 v:=by
 cases E with
 | det h0=>
  simp only [Eff.pre,Eff.rel] at h;split at h
  ·rename_i s1 hs;exact ⟨s1,hs,h⟩
  ·cases h
 | call K sg args post=>
  simp only [Eff.pre,Eff.rel] at h;obtain ⟨as,res,outs,h1,h2,h3⟩:=h;split at h1
  ·rename_i s1 hs;rw [hs] at h3;exact ⟨s1,hs,as,res,outs,h1,h2,h3⟩
  ·cases h1
def Stp.take (t:Nat) (S1 S2:Stp):Stp:=⟨S2.up++S1.up.map (fun p=>(p.1,S2.kl p.2)),fun T=>S2.kl (S1.kl T),t::S2.rd,S2.eff.pre (F4 t)⟩
def rU (g:Nat->TT) (S:Stp):Nat->TT:=aC (fun t=>S.kl (g t)) S.up
theorem azT {P:aR} {N:Nat} {g:Nat->TT} {o:bS} {t:Nat} {S1 S2:Stp} (h1:qE N g t=some S1) (hk:S1.kl .dead = .dead) (hk2:S2.kl .dead = .dead) (h2:d_ P N o (rU g S1) S2) (ht:t∈S2.up.map (·.1)) (hv:∀s v,S2.eff.rel P s v->v.length<=S2.up.length)  :
  d_ P N o g (Stp.take t S1 S2):=by
 intro ac κ0 κ w0 w tg sv s a v next Q hN hR hL hv0 bT;simp only [Stp.take] at hv0;obtain ⟨s1,lH,ky⟩:=Eff.pre_rel hv0;simp only [F4] at lH;split at lH;case h_2=>cases lH
 case h_1 as jL=>
 cases lH;have nW:∃T1 r T2,S1.up=[(t,T1),(r,T2)]/\t≠r/\S1.eff = .det (gP t)/\g r≠.dead/\g t≠.dead:=by
  unfold qE at h1;split at h1;case h_2=>cases h1
  case h_1 ag cs0 r off S0 hT=>
  split at h1
  ·rename_i gg cs hr;split at h1
   ·rename_i hc;cases h1;exact ⟨_,r,_,rfl,hc.2.2.1,rfl,by rw [hr];simp,by rw [hT];simp⟩
   ·cases h1
  ·rename_i cs hr;split at h1
   ·rename_i hc;cases h1;exact ⟨_,r,_,rfl,hc.2.2.1,rfl,by rw [hr];simp,by rw [hT];simp⟩
   ·cases h1
  ·cases h1
 obtain ⟨T1,r,T2,nW,JV,axv,gY,NW⟩:=nW;have hps:=aoV (P:=P) h1;obtain ⟨κ',tg',sv',jA,aC_,aDa⟩:=hps ac κ0 κ w0 w tg sv s (gm a) [.v as []] hR hL (by rw [axv];simp [Eff.rel,gP,jL]);have hL':Le (rU g S1) (upd s t (.v as [])) tg' sv':=by
  intro u;rw [aC_ u,aDa u];simp only [rU,nW,aC,bf,bQ,J7,List.zip_nil_right,upd];by_cases FJ:u=t
  ·simp [FJ]
  ·simp only [if_neg FJ];by_cases yO:u=r
   ·subst yO;simp only [if_true];right;refine ⟨trivial,?_⟩;rcases hL u with h3|h3
    ·exact absurd h3 gY
    ·exact h3.2
   ·simp only [if_neg yO];rcases hL u with h3|⟨h3,h4⟩
    ·left;rw [h3,hk]
    ·right;exact ⟨by rw [h3],h4⟩
 refine h2 ac κ0 κ' w0 w tg' sv' _ a v next Q hN jA hL' ky fun x w' κ'' tg'' sv'' ako abH abI => ?_
 have CL:=hv _ _ ky;refine bT x w' κ'' tg'' sv'' ako (fun u => ?_) (fun u => ?_)
 ·rw [abH u];simp only [Stp.take];rw [Ea];by_cases hu:u∈S2.up.map (·.1)
  ·exact bR.upds_in hu
  ·rw [bR.upds_out hu,bR.upds_out hu,aC_ u,nW];simp only [aC,bf,bQ];split
   ·rfl
   ·split<;>rfl
 ·rw [abI u];simp only [Stp.take];have hz:((S2.up++S1.up.map fun p=>(p.1,S2.kl p.2)).map (·.1)).zip v=(S2.up.map (·.1)).zip v:=by
   rw [wV];exact I5 (by simpa using CL)
  rw [hz];by_cases hu:u∈((S2.up.map (·.1)).zip v).map (·.1)
  ·exact bR.upds_in hu
  ·rw [bR.upds_out hu,bR.upds_out hu,aDa u,nW];simp only [aC,bf,bQ,J7,List.zip_nil_right];split
   ·rename_i FJ;subst FJ;have qA:∃ag cs0 r off S0,g u = .alias ag cs0 r [] off S0:=by
     unfold qE at h1;split at h1
     ·rename_i ag cs0 r off S0 hT;exact ⟨_,_,_,_,_,hT⟩
     ·cases h1
    obtain ⟨ag,cs0,r',off,S0,hT⟩:=qA;obtain ⟨e1,e2⟩:=hL.at hT (by simp);have h5:=hR.tr u;rw [e1] at h5;simp only [TR] at h5;obtain ⟨as',is,vs,gf,ra,row,k1,_,_,_,_,k5,_⟩:=h5;have pK:is=[]:=by
     cases is with
     | nil=>rfl
     | cons=>simp [gq] at k5
    subst pK;rw [k1];obtain ⟨is2,Hm⟩:=df jL;rw [e2,Hm] at k1;cases k1;rfl
   ·rfl
end Go.Fw
namespace Go.Fw
def woff:aa (Bool × Nat)->Nat->Nat
 | [],_=>0
 | _,0=>0
 | (_,n)::ws,i+1=>n+woff ws i
theorem OB:∀{ws:aa (Bool × Nat)} {xs vs:aa aj} {i:Nat} {ag:Bool} {n:Nat},u_ ws xs=some vs->ws[i]?=some (ag,n) ->
  ∃x,xs[i]?=some x/\cellsOf ag x=some ((vs.drop (woff ws i)).take n)/\woff ws i+n<=vs.length
 | [],_,_,_,_,_,_,h=>by simp at h
 | _::_,[],_,_,_,_,h,_=>by simp [u_] at h
 | (g,m)::ws,x::xs,vs,i,ag,n,h,hw=>by
  simp only [u_] at h;split at h;case h_2=>cases h
  case h_1 a b ha hb=>
  split at h;case isFalse=>cases h
  case isTrue hm=>
  cases h;cases i with
  | zero=>
   simp at hw;obtain ⟨rfl,rfl⟩:=hw;refine ⟨x,by simp,?_,?_⟩
   ·simp only [woff,FY];rw [<-hm,C8];exact ha
   ·simp [woff,hm]
  | succ i=>
   obtain ⟨y,h1,h2,h3⟩:=OB hb (by simpa using hw);refine ⟨y,by simpa using h1,?_,?_⟩
   ·simp only [woff];rw [<-hm,<-List.drop_drop,Ka];exact h2
   ·simp only [woff,bq];omega
def uD (t off n:Nat) (s:Nat->AV):ah (aa AV):=(iM t s).map fun as=>[.v ((as.drop off).take n) []]
def ahh (N:Nat) (g:Nat->TT) (o:bS):ah Stp:=
 match o.dst,o.op with
 | some d,.extract (.tmp t) i=>match g t with
  | .tup ws cs=>match ws[i]? with
   | some (ag,n)=>if d<N/\t<N/\d≠t/\CT.mens [t] cs=false/\woff ws i+n<=cs.length/\h_ ((cs.drop (woff ws i)).take n)=true then
     some ⟨[(d,.val ag ((cs.drop (woff ws i)).take n)),(t,.tup ws (iT (woff ws i) n cs))],fun T=>T.kill [d,t] [t],[t],.det (uD t (woff ws i) n)⟩ else none
   | none=>none
  | _=>none
 | _,_=>none
theorem asv {P:aR} {N:Nat} {g:Nat->TT} {o:bS} {S:Stp} (h:ahh N g o=some S):d_ P N o g S:=by
 unfold ahh at h;split at h;case h_2=>cases h
 case h_1 d t i hd ho=>
 split at h;case h_2=>cases h
 case h_1 ws cs hT=>
 split at h;case h_2=>cases h
 case h_1 ag n hw=>
 split at h;case isFalse=>cases h
 case isTrue hc=>
 obtain ⟨hdN,lV,zi,hm,hn,jy⟩:=hc;cases h;intro ac κ0 κ w0 w tg sv s a v next Q hN hR hL hv bT;simp only [Eff.rel,uD,cO] at hv;obtain ⟨as,hg,rfl⟩:=hv;obtain ⟨e1,e2⟩:=hL.at hT (by simp);have h1:=hR.tr t;rw [e1] at h1;simp only [TR] at h1;obtain ⟨as',xs,vs,g1,g2,g3,g4,g5⟩:=h1;obtain ⟨is,hs⟩:=df hg;rw [e2,hs] at g1;cases g1;obtain ⟨x,hx,hcx,_⟩:=OB g3 hw;have jA:=ar9 hR hdN lV zi e1 hm hn (g:=ag) (x:=x) (as:=as) (by rw [e2,hs]) jy (fun xs' vs' k1 k2=>by
  rw [g2] at k1;cases k1
  rw [g3] at k2;cases k2
  exact hcx)
 refine Ki (w':=w) (x:=x) ?_ (bT x w _ _ _ (by rw [hd,qf (a:=a) (by rw [hN];exact hdN)];exact jA) (fun u => ?_) (fun u => ?_))
 ·unfold execOp;rw [ho];simp only;refine dG ?_;have ko:a.eval (.tmp t)=gm a t:=rfl;rw [ko,g2];unfold Instr.extract;simp only;have zh:xs[i]?=some x:=by simpa using hx
  rw [zh];rfl
 ·simp only [aC,upd]
 ·simp [aC,upd]
end Go.Fw
namespace Go.Fw
theorem VC {κ:aP} {w:aA} {e:aa CT} {p:Pl} {get:Nat->aj}:∀{l j:Nat} {xs:aa (aa A)},dF κ w e p j get xs->dF κ w e p (j+l*e.length) get (xs.drop l)
 | 0,j,xs,h=>by simpa using h
 | l+1,j,[],h=>by simp [dF]
 | l+1,j,x::xs,h=>by
  simp only [dF] at h;have:=VC (l:=l) h.2;rw [show j+e.length+l*e.length=j+(l+1)*e.length from by rw [eD];omega] at this;simpa using this
theorem Ko {κ:aP} {w:aA} {e:aa CT} {p:Pl} {get:Nat->aj}:∀{l j:Nat} {xs:aa (aa A)},dF κ w e p j get xs->dF κ w e p j get (xs.take l)
 | 0,j,xs,h=>by simp [dF]
 | l+1,j,[],h=>by simp [dF]
 | l+1,j,x::xs,h=>by
  simp only [dF] at h;simp only [CU,dF];exact ⟨h.1,Ko h.2⟩
theorem OC {κ:aP} {w:aA} {e:aa CT} {p p':Pl} (hn:CT.nowns e=true):∀{xs:aa (aa A)} {j j':Nat} {get get':Nat->aj},(∀i,i<xs.length*e.length->get' (j'+i)=get (j+i)) ->
  dF κ w e p j get xs->dF κ w e p' j' get' xs
 | [],_,_,_,_,_,_=>by simp [dF]
 | x::xs,j,j',get,get',hg,h=>by
  simp only [dF] at h ⊢;simp only [bA,eD,A_] at hg;refine ⟨jU (P:=fun _=>True) (fun S _ b hb=>⟨hb,Same.refl w b⟩) hn (iK (fun _=>trivial) e) (fun i hi=>hg i (by omega)) h.1,OC hn (fun i hi => ?_) h.2⟩;have:=hg (e.length+i) (by omega);rw [show j'+e.length+i=j'+(e.length+i) from by omega,show j+e.length+i=j+(e.length+i) from by omega];exact this
theorem asw {κ:aP} {w:aA} {S:aa Nat} {e:aa CT} {p:Pl} {ao:ah Addr} {n cap l h:Nat} {xs:aa (aa A)} (bv:CT.nowns e=true) (hr:RC κ w (.sl (.ro S) e) p (.slice ao n cap) (.s xs)) (h1:l<=h) (h2:h<=xs.length) :
  n=xs.length/\h<=cap/\RC κ w (.sl (.ro S) e) p (.slice (if cap=l then ao else ao.map (·.add (l*e.length))) (h-l:Nat) (cap-l)) (.s ((xs.drop l).take (h-l))):=by
 simp only [RC] at hr;obtain ⟨ao',cap',hx,dD,hc⟩:=hr;cases hx;have bJ:((xs.drop l).take (h-l)).length=h-l:=by simp;omega
 refine ⟨rfl,by omega,?_⟩;simp only [RC,bJ];refine ⟨_,_,rfl,by omega,?_⟩;rcases hc with rfl|⟨b,o,rfl,hb,FF,he⟩
 ·left;simp
 ·by_cases hz:h-l=0
  ·left;rw [hz];simp
  ·right;have mQ:cap≠l:=by omega
   rw [if_neg mQ];refine ⟨b,o+l*e.length,by simp only [dx];rw [zu],hb,fun q q1 q2=>FF q (by omega) ?_,?_⟩
   ·have h3:l*e.length+(h-l)*e.length=h*e.length:=by rw [<-eD];congr 1;omega
    have h4:h*e.length<=xs.length*e.length:=jg _ h2;omega
   ·have h5:=Ko (l:=h-l) (VC (l:=l) he);rw [cB] at h5;refine OC bv (fun i _ => ?_) h5;show cellD w b _=cellD w b _;congr 1;omega
theorem adk {ac:Nat->Nat->aj} {κ0 κ:aP} {w0 w:aA} {N:Nat} {tg:Nat->TT} {sv:Nat->AV} {tm:Nat->aj} (h:R ac κ0 w0 κ w N tg sv tm) {d:Nat} (hd:d<N) {S:aa Nat} {e:aa CT} {p:Pl} {x:aj} {xs:aa (aa A)}
  (bv:CT.nowns e=true) (hr:RC κ w (.sl (.ro S) e) p x (.s xs)) :
  R ac κ0 w0 (aW κ (iV d) none) w N (kI tg d (.val false [.sl (.ro S) e])) (upd sv d (.v [.s xs] [])) (upd tm d x):=by
 refine nI h hd (Grows.refl w) (fun _ _ h=>by cases h) ?_;have hx:cellsOf false x=some [x]:=by
  simp only [RC] at hr;obtain ⟨ao,cap,rfl,_⟩:=hr;rfl
 have mQ:=fun S b hb=>mI (κ:=κ) (w:=w) (w':=w) (d:=d) (nb:=none) (Grows.refl w) (fun _ _ h=>by cases h) S b hb
 simp only [TR,bI];refine ⟨_,[x],rfl,hx,rfl,fun k j c e' hc => ?_,?_⟩
 ·cases k<;>simp at hc
 ·simp only [aB];exact ⟨abS (P:=fun _=>True) (fun S _ b hb=>mQ S b hb) (by simpa [CT.nown] using bv) (ac3 (fun _=>trivial) _) hr,trivial⟩
def Bf (s:Nat->AV) (dflt:Nat):ah DX->ah Nat
 | none=>some dflt
 | some X=>match X.get s with
  | some v=>toN v
  | none=>none
def Hy (g:Nat->TT):ah iN->ah (ah DX)
 | none=>some none
 | some x=>(nL g x).map some
def Bg (t:Nat) (lo hi:ah DX) (s:Nat->AV):ah (aa AV):=
 match vI t s with
 | some (xs,_)=>match Bf s 0 lo,Bf s xs.length hi with
  | some l,some h=>if l<=h/\h<=xs.length then some [.v [.s ((xs.drop l).take (h-l))] []] else none
  | _,_=>none
 | none=>none
def ahi (P:aR) (N:Nat) (g:Nat->TT) (o:bS):ah Stp:=
 match o.dst,o.op with
 | some d,.slice ty (.tmp t) lo hi none=>match P.underlying ty,qg P g ty 0 (.tmp t),Hy g lo,Hy g hi with
  | some (.slice et),some X,some L,some H=>match P.info? et,X.ag,X.cs with
   | some i,false,[.sl m e]=>
    let S:=t::CT.srcss X.cs
    if d<N/\CT.lives X.cs=true/\i.size=e.length then
     some (Stp.set d (.val false [.sl (.ro S) (CT.roizes S e)]) [t] (.det (Bg t L H)))
    else none
   | _,_,_=>none
  | _,_,_,_=>none
 | _,_=>none
theorem zF {ac:Nat->Nat->aj} {κ0 κ:aP} {w0 w:aA} {N:Nat} {tg g:Nat->TT} {sv s:Nat->AV} {a:Act} (hR:R ac κ0 w0 κ w N tg sv (gm a)) (hL:Le g s tg sv) {x:ah iN} {X:ah DX} (hx:Hy g x=some X) {n l:Nat}
  (hb:Bf s n X=some l):(x.map a.eval=none/\l=n)\/∃k,x.map a.eval=some (.int k (l:Int)):=by
 cases x with
 | none=>simp only [Hy,aK] at hx;subst hx;simp only [Bf,aK] at hb;exact .inl ⟨rfl,hb.symm⟩
 | some x=>
  simp only [Hy,cO] at hx;obtain ⟨Y,hY,rfl⟩:=hx;simp only [Bf] at hb;split at hb
  ·rename_i v hv;obtain ⟨k,m,rfl,h0,rfl⟩:=Vw hb;obtain ⟨e1,_⟩:=vH hR hL hY hv;exact .inr ⟨k,by simp [e1,gV h0]⟩
  ·cases hb
theorem asy {P:aR} {N:Nat} {g:Nat->TT} {o:bS} {S:Stp} (h:ahi P N g o=some S):d_ P N o g S:=by
 unfold ahi at h;split at h;case h_2=>cases h
 case h_1 d ty t lo hi hd ho=>
 split at h;case h_2=>cases h
 case h_1 et X L H hty hX Ho hHi=>
 split at h;case h_2=>cases h
 case h_1 i m e jw N_ pR=>
 simp only at h;split at h;case isFalse=>cases h
 case isTrue hc=>
 obtain ⟨hdN,lW,dM⟩:=hc;cases h;intro ac κ0 κ w0 w tg sv s a v next Q hN hR hL hv bT;simp only [Stp.set,Eff.rel,Bg] at hv;split at hv;case h_2=>cases hv
 case h_1 xs is yP=>
 split at hv;case h_2=>cases hv
 case h_1 l h hl hh=>
 split at hv;case isFalse=>cases hv
 case isTrue hb=>
 cases hv;have jG:=wB yP;have hXt:X.t=t/\X.get=iM t:=by
  simp only [qg] at hX;split at hX
  ·cases hX;exact ⟨rfl,rfl⟩
  ·split at hX
   ·cases hX;exact ⟨rfl,rfl⟩
   ·cases hX
  ·cases hX
 obtain ⟨vs,k1,k2,k3,_⟩:=rT hR hL hX (as:=[.s xs]) (by rw [hXt.2];unfold iM;rw [jG]);rw [N_] at k1;have mr:=kr k1;subst mr;rw [hXt.1] at k3;have k4:=R7 (S:=t::CT.srcss X.cs) (p':=(d,[])) (j':=0) (get':=fun k=>[a.eval (.tmp t)].getD k undef) lW (by simp) (kN fun r hr=>by simp [hr]) (fun _ _=>rfl) k3;rw [pR] at k4 lW;simp only [CT.roizes,CT.roize,aB] at k4;obtain ⟨k5,_⟩:=k4;have k5':RC κ w (.sl (.ro (t::CT.srcss X.cs)) (CT.roizes (t::CT.srcss X.cs) e)) (Pl.at (d,[]) 0) (a.eval (.tmp t)) (.s xs):=by
  rw [pR];simpa using k5
 obtain ⟨ao,cap,ko⟩:=IZ (by simp) k5';rw [ko] at k5';obtain ⟨_,hhc,gX⟩:=asw (oJ _ e) k5' hb.1 hb.2;rw [dE] at gX;refine iO hd hN hdN (w':=w) ?_ (adk hR hdN (oJ _ e) gX) bT;unfold execOp;rw [ho];simp only;refine dG ?_;rw [ko];have fq:=Ol (P:=P) (t:=ty) (e:=et) (i:=i) (ao:=ao) (len:=xs.length) (cap:=cap) (lo:=lo.map a.eval) (hi:=hi.map a.eval) (l:=l) (h:=h) (w:=w) hty jw (zF hR hL Ho hl) (zF hR hL hHi hh) hb.1 hhc;rw [dM] at fq;simpa using fq
def ab0 (P:aR) (N:Nat) (g:Nat->TT) (fG:Bool) (o:bS):ah Stp:=
 match fG with
 | false=>none
 | true=>match o.dst,o.op with
  | some d,.slice ty (.tmp t) lo hi none=>match P.underlying ty,qg P g ty 0 (.tmp t),Hy g lo,Hy g hi with
   | some (.slice et),some X,some L,some H=>match P.info? et,X.ag,X.cs with
    | some i,false,[.sl (.ro S) e]=>
     if d<N/\CT.nowns e=true/\i.size=e.length then
      some (Stp.set d (.val false [.sl (.ro S) e]) [t] (.det (Bg t L H)))
     else none
    | _,_,_=>none
   | _,_,_,_=>none
  | _,_=>none
theorem ao0 {P:aR} {N:Nat} {g:Nat->TT} {fG:Bool} {o:bS} {S:Stp} (h:ab0 P N g fG o=some S):d_ P N o g S:=by
 unfold ab0 at h;split at h;case h_1=>cases h
 case h_2=>
 split at h;case h_2=>cases h
 case h_1 d ty t lo hi hd ho=>
 split at h;case h_2=>cases h
 case h_1 et X L H hty hX Ho hHi=>
 split at h;case h_2=>cases h
 case h_1 i S0 e jw N_ pR=>
 split at h;case isFalse=>cases h
 case isTrue hc=>
 obtain ⟨hdN,bv,dM⟩:=hc;cases h;intro ac κ0 κ w0 w tg sv s a v next Q hN hR hL hv bT;simp only [Stp.set,Eff.rel,Bg] at hv;split at hv;case h_2=>cases hv
 case h_1 xs is yP=>
 split at hv;case h_2=>cases hv
 case h_1 l h hl hh=>
 split at hv;case isFalse=>cases hv
 case isTrue hb=>
 cases hv;have jG:=wB yP;have hXt:X.t=t/\X.get=iM t:=by
  simp only [qg] at hX;split at hX
  ·cases hX;exact ⟨rfl,rfl⟩
  ·split at hX
   ·cases hX;exact ⟨rfl,rfl⟩
   ·cases hX
  ·cases hX
 obtain ⟨vs,k1,k2,k3,_⟩:=rT hR hL hX (as:=[.s xs]) (by rw [hXt.2];unfold iM;rw [jG]);rw [N_] at k1;have mr:=kr k1;subst mr;rw [hXt.1] at k3;have hn:CT.nowns X.cs=true:=by rw [pR];simpa [CT.nowns,CT.nown] using bv
 have k4:=jU (P:=fun _=>True) (κ':=κ) (w':=w) (p':=(d,[])) (j':=0) (get':=fun k=>[a.eval (.tmp t)].getD k undef) (fun S _ b hb=>⟨hb,Same.refl w b⟩) hn (iK (fun _=>trivial) X.cs) (fun _ _=>rfl) k3;rw [pR] at k4;simp only [aB] at k4;obtain ⟨k5,_⟩:=k4;have k5':RC κ w (.sl (.ro S0) e) (Pl.at (d,[]) 0) (a.eval (.tmp t)) (.s xs):=k5;obtain ⟨ao,cap,ko⟩:=IZ (by simp) k5';rw [ko] at k5';obtain ⟨_,hhc,gX⟩:=asw bv k5' hb.1 hb.2;refine iO hd hN hdN (w':=w) ?_ (adk hR hdN bv gX) bT;unfold execOp;rw [ho];simp only;refine dG ?_;rw [ko];have fq:=Ol (P:=P) (t:=ty) (e:=et) (i:=i) (ao:=ao) (len:=xs.length) (cap:=cap) (lo:=lo.map a.eval) (hi:=hi.map a.eval) (l:=l) (h:=h) (w:=w) hty jw (zF hR hL Ho hl) (zF hR hL hHi hh) hb.1 hhc;rw [dM] at fq;simpa using fq
end Go.Fw
namespace Go.Fw
def mvB (t d:Nat) (p:Pl):ah Pl:=if p.1=t then some (d,p.2) else if p.1=d then none else some p
theorem azU {ac:Nat->Nat->aj} {κ0 κ:aP} {w0 w:aA} {N:Nat} {tg:Nat->TT} {sv:Nat->AV} {tm:Nat->aj} (h:R ac κ0 w0 κ w N tg sv tm) {d t:Nat} (hd:d<N) (fZ:t≠d) {cs:aa CT} (ht:tg t = .box cs) (hm:CT.mens [t] cs=false)
  {as:aa A} (hs:sv t = .v as []) :
  R ac κ0 w0 (aW κ (mvB t d) none) w N (upd (fun u=>if u∈[t] then .dead else (tg u).kill [d,t] [t]) d (.box cs)) (upd sv d (.v as [])) (upd tm d (tm t)):=by
 have lV:t<N:=by
  apply sW;intro dD;have:=h.out t dD;rw [ht] at this;cases this
 have hM:∀r q p,mvB t d (r,q)=some p->r∉[t]->p=(r,q):=by
  intro r q p hp hr;unfold mvB at hp;simp only [bY] at hr;rw [if_neg hr] at hp;split at hp
  ·cases hp
  ·cases hp;rfl
 refine abP (mods:=[d,t]) (M:=[t]) h (by have:=h.nle;simp;omega) (Grows.refl w) (fun r q hr => ?_) hM (fun _ _ h=>by cases h) (fun r hr => ?_) (fun r hr => ?_) (fun r hr => ?_) (fun u hu => ?_) (fun u hu => ?_)
 ·simp at hr;simp [mvB,hr]
 ·simp at hr;simp [upd,hr]
 ·simp at hr;simp [upd,hr]
 ·simp at hr;simp [upd,hr]
 ·by_cases FH:u=d
  ·subst FH;have h1:=h.tr t;rw [ht] at h1;simp only [TR,bI] at h1 ⊢;obtain ⟨as',b,g1,g2,g3,g4,g5,g6,g7⟩:=h1;rw [hs] at g1;cases g1;have sQ:∀b q,κ b=some (t,q)->aW κ (mvB t u) none b=some (u,q):=fun b q hb=>by simp [aW,hb,mvB]
   refine ⟨as,b,rfl,g2,g3,sQ b [] g4,g5,g6,?_⟩;have hs:CT.allSs (fun S=>∀m,m∈[t]->m∉S) cs:=fw (fun S hS=>hS) hm;have:=gH (f:=id) (κ':=aW κ (mvB t u) none) (w':=w) (p':=(u,[])) (get':=cellD w b) (fun S hS b hb=>nJ (Grows.refl w) hM (fun _ _ h=>by cases h) hS b hb) hs (fun i _ b q hb=>⟨by simpa using sQ b _ hb,Same.refl w b⟩) (fun _ _=>rfl) g7;rwa [iU] at this
  ·have:u=t:=by simpa [FH] using hu
   subst this;simp [upd,FH,TR]
 ·have h1:u≠d:=by omega
  have h2:u≠t:=by omega
  simp [upd,h1,h2,h.out u hu,TT.kill]
def ahk (N:Nat) (g:Nat->TT) (fG:Bool) (o:bS):ah Stp:=
 if fG then match o.dst,o.op with
  | some d,.assign (.tmp t)=>match g t with
   | .box cs=>if d<N/\t≠d/\CT.mens [t] cs=false then some (Stp.mv d [t] (.box cs) [t] (.det (gP t))) else none
   | _=>none
  | _,_=>none
 else none
theorem asz {P:aR} {N:Nat} {g:Nat->TT} {fG:Bool} {o:bS} {S:Stp} (h:ahk N g fG o=some S):d_ P N o g S:=by
 unfold ahk at h;split at h;case isFalse=>cases h
 split at h;case h_2=>cases h
 case h_1 d t hd ho=>
 split at h;case h_2=>cases h
 case h_1 cs hT=>
 split at h;case isFalse=>cases h
 case isTrue hc=>
 cases h;intro ac κ0 κ w0 w tg sv s a v next Q hN hR hL hv bT;simp only [Stp.mv,Eff.rel,gP,cO] at hv;obtain ⟨as,hg,rfl⟩:=hv;obtain ⟨e1,e2⟩:=hL.at hT (by simp);obtain ⟨is,hs⟩:=df hg;have h1:=hR.tr t;rw [e1] at h1;simp only [TR] at h1;obtain ⟨as',b,g1,_⟩:=h1;rw [e2,hs] at g1;cases g1;refine xh hd hN hc.1 (w':=w) (x:=gm a t) ?_ (azU hR hc.1 hc.2.1 e1 hc.2.2 (by rw [e2,hs])) bT;unfold execOp;rw [ho];rfl
inductive EK where
 | b
 | i
 | s
def mW:aa EK->aa aj->aa aj->ah Bool
 | [],[],[]=>some true
 | .b::ks,.bool a::xs,.bool b::ys=>(mW ks xs ys).map fun r=>(a == b)&&r
 | .i::ks,.int k a::xs,.int k' b::ys=>if k=k' then (mW ks xs ys).map fun r=>(a == b)&&r else none
 | .s::ks,.string a::xs,.string b::ys=>(mW ks xs ys).map fun r=>(a.toList == b.toList)&&r
 | _,_,_=>none
theorem F5:∀{k1 k2:aa EK} {xs ys:aa aj} {r:Bool},mW (k1++k2) xs ys=some r->∃r1 r2,mW k1 (xs.take k1.length) (ys.take k1.length)=some r1/\mW k2 (xs.drop k1.length) (ys.drop k1.length)=some r2/\r=(r1&&r2)
 | [],k2,xs,ys,r,h=>⟨true,r,by simp [mW],by simpa using h,by simp⟩
 | k::k1,k2,xs,ys,r,h=>by
  simp only [nC] at h;unfold mW at h;split at h
  ·rename_i h1;cases h1
  ·rename_i ks a xs' b ys' h1;cases h1;simp only [cO] at h;obtain ⟨r',h2,rfl⟩:=h;obtain ⟨r1,r2,g1,g2,rfl⟩:=F5 h2;refine ⟨_,r2,?_,by simpa using g2,(Bool.and_assoc _ _ _).symm⟩;simp only [bA,CU,mW,g1,dx]
  ·rename_i ks k0 a xs' k0' b ys' h1;cases h1;split at h;case isFalse=>cases h
   case isTrue hk=>
   simp only [cO] at h;obtain ⟨r',h2,rfl⟩:=h;obtain ⟨r1,r2,g1,g2,rfl⟩:=F5 h2;refine ⟨_,r2,?_,by simpa using g2,(Bool.and_assoc _ _ _).symm⟩;simp only [bA,CU,mW,hk,g1,dx,if_true]
  ·rename_i ks a xs' b ys' h1;cases h1;simp only [cO] at h;obtain ⟨r',h2,rfl⟩:=h;obtain ⟨r1,r2,g1,g2,rfl⟩:=F5 h2;refine ⟨_,r2,?_,by simpa using g2,(Bool.and_assoc _ _ _).symm⟩;simp only [bA,CU,mW,g1,dx]
  ·cases h
theorem amg:∀{ks:aa EK} {xs ys:aa aj} {r:Bool},mW ks xs ys=some r->xs.length=ks.length/\ys.length=ks.length:=by
 intro ks;induction ks with
 | nil=>intro xs ys r h;cases xs<;>cases ys<;>simp [mW] at h;simp
 | cons k ks ih=>
  intro xs ys r h;unfold mW at h;split at h
  ·rename_i h1;cases h1
  ·rename_i h1;cases h1;simp only [cO] at h;obtain ⟨r',h2,_⟩:=h;have:=ih h2;simp [this.1,this.2]
  ·rename_i h1;cases h1;split at h;case isFalse=>cases h
   simp only [cO] at h;obtain ⟨r',h2,_⟩:=h;have:=ih h2;simp [this.1,this.2]
  ·rename_i h1;cases h1;simp only [cO] at h;obtain ⟨r',h2,_⟩:=h;have:=ih h2;simp [this.1,this.2]
  ·cases h
def eqG (P:aR) (K:TypeId->ah (aa EK)):aa Field->Nat->ah (aa EK)
 | [],_=>some []
 | f::fs,off=>match P.info? f.type with
  | some i=>match K f.type,eqG P K fs (off+i.size) with
   | some k1, some k2 => if f.name ≠ "_" ∧ f.offset = off ∧ i.size = k1.length ∧ 0 < k1.length then some (k1 ++ k2) else none
   | _,_=>none
  | none=>none
def OD (P:aR):Nat->TypeId->ah (aa EK)
 | 0,_=>none
 | d+1,t=>match P.underlying t with
  | some .bool=>some [.b]
  | some (.int _)=>some [.i]
  | some .string=>some [.s]
  | some (.struct fs)=>if P.stoodInHeld t=false then eqG P (OD P d) fs.toList 0 else none
  | _=>none
abbrev eqF (P:Program) (d:Nat):List Field->Nat->Option (List EK):=eqG P (OD P d)
def valOf (P:aR) (t:TypeId) (xs:aa aj):aj:=
 match P.underlying t with
 | some (.struct _)=>.agg xs.toArray
 | _=>xs.getD 0 undef
section
variable {P:aR} {w:aA}
theorem ahm {d:Nat} {t:TypeId} {i:TypeInfo} {ks:aa EK} (hi:P.info? t=some i) (hk:OD P d t=some ks) (dM:i.size=ks.length) {X:Array aj} {off:Nat} (yR:off+ks.length<=X.size) :
  (part t X off).run P w = .ok (valOf P t ((X.toList.drop off).take ks.length)) w:=by
 cases d with
 | zero=>simp [OD] at hk
 | succ d=>
  simp only [OD] at hk;unfold part valOf;have one:∀{g:Bool},w9 P t=some g->g=false->ks.length=1->(∀fs,P.underlying t≠some (.struct fs))->((do if <-isAgg t then pure (.agg (X.extract off (off+(<-sizeOf t)))) else match X[off]? with
    | some v=>pure v
    | none => stuck "part: no such cell") : Sem aj).run P w = .ok (match P.underlying t with
    | some (.struct _)=>.agg ((X.toList.drop off).take ks.length).toArray
    | _=>((X.toList.drop off).take ks.length).getD 0 undef) w:=by
   intro g hg hgf hl hns;rw [aF (F3 hg w)];subst hgf;simp only [eQ,if_false];have bZ:off<X.size:=by omega
   have h1:X[off]?=some X[off]:=by simp [bZ]
   rw [h1];have h2:((X.toList.drop off).take ks.length).getD 0 undef=X[off]:=by
    rw [dA,qR (by omega),oF];simp [bZ]
   rw [h2];rfl
  split at hk
  ·rename_i hu;cases hk;exact one (g:=false) (by simp [w9,hu]) rfl rfl (by simp [hu])
  ·rename_i k hu;cases hk;exact one (g:=false) (by simp [w9,hu]) rfl rfl (by simp [hu])
  ·rename_i hu;cases hk;exact one (g:=false) (by simp [w9,hu]) rfl rfl (by simp [hu])
  ·rename_i fs hu;rw [aF (F3 (g:=true) (by simp [w9,hu]) w)];simp only [if_true];rw [aF (run_sizeOf hi w),hu];simp only [dM];show Result.ok (Value.agg (X.extract off (off+ks.length))) w=_;congr 2;apply Array.ext';simp [List.drop_take,Nat.add_sub_cancel_left]
  ·cases hk
theorem azV:∀{d:Nat},(∀{t:TypeId} {ks:aa EK} {xs ys:aa aj} {r:Bool} (m:Nat),OD P d t=some ks->mW ks xs ys=some r->(Op.equalIn (m+d) t (valOf P t xs) (valOf P t ys)).run P w = .ok r w) /\
  (∀{fs:aa Field} {off:Nat} {ks:aa EK} {X Y:Array aj} {r:Bool} (m:Nat),eqF P d fs off=some ks->mW ks (X.toList.drop off) (Y.toList.drop off)=some r->(Op.eqFields (m+d) X Y fs).run P w = .ok r w):=by
 intro d;induction d with
 | zero=>
  refine ⟨fun m hk=>by simp [OD] at hk,fun {fs} => ?_⟩;induction fs with
  | nil=>
   intro off ks X Y r m hf hv;simp only [eqG,aK] at hf;subst hf;cases hx:X.toList.drop off<;>cases hy:Y.toList.drop off<;>rw [hx,hy] at hv<;>simp [mW] at hv;subst hv;rfl
  | cons f fs ih=>
   intro off ks X Y r m hf hv;simp only [eqG,OD] at hf;split at hf
   ·cases hf
   ·cases hf
 | succ d ih=>
  have hK:∀{t:TypeId} {ks:aa EK} {xs ys:aa aj} {r:Bool} (m:Nat),OD P (d+1) t=some ks->mW ks xs ys=some r->(Op.equalIn (m+(d+1)) t (valOf P t xs) (valOf P t ys)).run P w = .ok r w:=by
   intro t ks xs ys r m hk hv;simp only [OD] at hk;split at hk
   ·rename_i hu;cases hk;unfold mW at hv;split at hv
    ·rename_i h1;cases h1
    ·rename_i h1;cases h1;simp only [cO] at hv;obtain ⟨r',h2,rfl⟩:=hv;rename_i a xs b ys;cases xs<;>cases ys<;>simp [mW] at h2;subst h2;simp only [valOf,hu,uZ,wW];exact run_equalIn_bool w _ t _ _ hu
    ·rename_i h1;cases h1
    ·rename_i h1;cases h1
    ·cases hv
   ·rename_i k hu;cases hk;unfold mW at hv;split at hv
    ·rename_i h1;cases h1
    ·rename_i h1;cases h1
    ·rename_i h1;cases h1;split at hv;case isFalse=>cases hv
     case isTrue hkk=>
     subst hkk;simp only [cO] at hv;obtain ⟨r',h2,rfl⟩:=hv;rename_i k0 a xs b ys;cases xs<;>cases ys<;>simp [mW] at h2;subst h2;simp only [valOf,hu,uZ,wW];exact run_equalIn_int w _ t _ _ _ _ hu
    ·rename_i h1;cases h1
    ·cases hv
   ·rename_i hu;cases hk;unfold mW at hv;split at hv
    ·rename_i h1;cases h1
    ·rename_i h1;cases h1
    ·rename_i h1;cases h1
    ·rename_i h1;cases h1;simp only [cO] at hv;obtain ⟨r',h2,rfl⟩:=hv;rename_i a xs b ys;cases xs<;>cases ys<;>simp [mW] at h2;subst h2;simp only [valOf,hu,uZ,wW];exact run_equalIn_string w _ t _ _ hu
    ·cases hv
   ·rename_i fs hu;split at hk;case isFalse=>cases hk
    case isTrue jG=>
    have hfo:P.fieldsOf t=fs:=by unfold Program.fieldsOf;rw [hu]
    have:=run_equalIn_struct (P:=P) w (m+d) t xs.toArray ys.toArray (by rw [hfo];exact hu) jG;simp only [valOf,hu];rw [show m+(d+1)=m+d+1 from rfl,this,hfo];exact ih.2 m hk (by simpa using hv)
   ·cases hk
  refine ⟨hK,fun {fs} => ?_⟩;induction fs with
  | nil=>
   intro off ks X Y r m hf hv;simp only [eqG,aK] at hf;subst hf;cases hx:X.toList.drop off<;>cases hy:Y.toList.drop off<;>rw [hx,hy] at hv<;>simp [mW] at hv;subst hv;rfl
  | cons f fs ihf=>
   intro off ks X Y r m hf hv;simp only [eqG] at hf;split at hf;case h_2=>cases hf
   case h_1 i hi=>
   split at hf;case h_2=>cases hf
   case h_1 k1 k2 hk1 hk2=>
   split at hf;case isFalse=>cases hf
   case isTrue hc=>
   cases hf;obtain ⟨hnm,aGG,dM,yN⟩:=hc;obtain ⟨r1,r2,g1,g2,rfl⟩:=F5 hv;have hlx:=(amg hv).1;have hly:=(amg hv).2;simp only [kX,bq,RY] at hlx hly;have hfx:off+k1.length<=X.size:=by omega
   have hfy:off+k1.length<=Y.size:=by omega
   have p1:=ahm (P:=P) (w:=w) (X:=X) (off:=off) hi hk1 dM hfx;have p2:=ahm (P:=P) (w:=w) (X:=Y) (off:=off) hi hk1 dM hfy;have p3:=hK m hk1 g1;simp only [Op.eqFields,hnm,ne_eq,not_false_eq_true,if_true];rw [aGG,aF p1,aF p2,aF p3];cases r1 with
   | false=>rfl
   | true=>
    simp only [bK,eQ,if_false,gz];refine ihf m hk2 ?_;rw [dM];simpa [List.drop_drop] using g2
end
def I6:aa A->ah (aa aj)
 | []=>some []
 | .v x::as=>(I6 as).map (x :: ·)
 | _=>none
theorem ab1:∀vs:aa aj,I6 (vs.map .v)=some vs
 | []=>rfl
 | v::vs=>by simp [I6,ab1 vs]
def XG (ks:aa EK) (X Y:(Nat->AV)->ah (aa A)) (ne:Bool) (s:Nat->AV):ah (aa AV):=
 match X s,Y s with
 | some as,some bs=>match I6 as,I6 bs with
  | some xs,some ys=>match mW ks xs ys with
   | some r=>some [.v [.v (.bool (if ne then !r else r))] []]
   | none=>none
  | _,_=>none
 | _,_=>none
def ahn (P:aR) (N:Nat) (g:Nat->TT) (o:bS):ah Stp:=
 match o.dst,o.op with
 | some d,.binOp op t x y _=>match P.underlying t,OD P 12 t,qg P g t 0 x,qg P g t 1 y with
  | some (.struct _),some ks,some X,some Y=>
   if d<N/\(op = .eql\/op = .neq)/\X.ag=true/\Y.ag=true/\qL X.cs=true/\qL Y.cs=true/\P.eqGuardType P.depth t=false then
    some (Stp.set d (.val false [.d]) (X.rd++Y.rd) (.det (XG ks X.get Y.get (decide (op = .neq)))))
   else none
  | _,_,_,_=>none
 | _,_=>none
theorem amh {κ:aP} {w:aA} {p:Pl} {cs:aa CT} {vs:aa aj} {as:aa A} (hl:vs.length=cs.length) (hd:qL cs=true) (h:aB κ w cs p 0 (fun k=>vs.getD k undef) as):as=vs.map .v:=by
 obtain ⟨h1,_⟩:=Vx hd h;simp only [cB] at h1;have mr:(List.range cs.length).map (fun k=>vs.getD k undef)=vs:=by
  apply R6
  ·simp [hl]
  ·intro k hk mR;simp [dA,aZ mR]
 rw [mr] at h1;exact h1
theorem asA {x:aj} {vs:aa aj} (h:cellsOf true x=some vs):x = .agg vs.toArray:=by
 cases x<;>simp [cellsOf] at h;subst h;simp
theorem asB {P:aR} {N:Nat} {g:Nat->TT} {o:bS} {S:Stp} (h:ahn P N g o=some S):d_ P N o g S:=by
 unfold ahn at h;split at h;case h_2=>cases h
 case h_1 d op t x y u hd ho=>
 split at h;case h_2=>cases h
 case h_1 fs ks X Y hu hk hX hY=>
 split at h;case isFalse=>cases h
 case isTrue hc=>
 cases h;obtain ⟨hdN,ng,hxa,hya,hxd,hyd,NW⟩:=hc;intro ac κ0 κ w0 w tg sv s a v next Q hN hR hL hv bT;simp only [Stp.set,Eff.rel,XG] at hv;split at hv;case h_2=>cases hv
 case h_1 as bs jL wT=>
 split at hv;case h_2=>cases hv
 case h_1 xs ys yP hys=>
 split at hv;case h_2=>cases hv
 case h_1 r hr=>
 cases hv;obtain ⟨vs,a1,a2,a3,_⟩:=rT hR hL hX jL;obtain ⟨ws,b1,b2,b3,_⟩:=rT hR hL hY wT;have e1:=amh a2 hxd a3;have e2:=amh b2 hyd b3;rw [e1,ab1] at yP;rw [e2,ab1] at hys;cases yP;cases hys;rw [hxa] at a1;rw [hya] at b1;have va:=asA a1;have vb:=asA b1;have rE:=(azV (P:=P) (w:=w) (d:=12)).1 (10000-12) hk hr;simp only [valOf,hu] at rE;refine iO hd hN hdN (w':=w) (x:=.bool (if decide (op = .neq) then !r else r)) ?_ (Oo hR hdN rfl (Grows.refl w)) bT;unfold execOp;rw [ho];simp only;refine dG ?_;rw [va,vb,aF (run_eqGuard_agg (P:=P) w op t x y _ _ NW)];rcases ng with rfl|rfl
 ·rw [run_eql_struct,rE];rfl
 ·rw [run_neq_struct,rE];rfl
def bytesOf:aa (aa A)->ah (aa Int)
 | []=>some []
 | [.v (.int .u8 n)]::xs=>(bytesOf xs).map (n :: ·)
 | _=>none
def dW (ns:aa Int):ByteArray:=ns.foldl (fun r n=>r.push (UInt8.ofNat n.toNat)) ByteArray.empty
def Kq (t:Nat) (s:Nat->AV):ah (aa AV):=
 match vI t s with
 | some (xs,_)=>match bytesOf xs with
  | some ns=>some [.v [.v (.string (dW ns))] []]
  | none=>none
 | none=>none
def VD (P:aR) (N:Nat) (g:Nat->TT) (o:bS):ah Stp:=
 match o.dst,o.op with
 | some d,.convert src dst x=>match P.underlying src,P.underlying dst,ag3 g x with
  | some (.slice e),some .string,some (t,[.d])=>match P.underlying e with
   | some (.int .u8)=>if d<N then some (Stp.set d (.val false [.d]) [t] (.det (Kq t))) else none
   | _=>none
  | _,_,_=>none
 | _,_=>none
theorem Tm {κ:aP} {w:aA} {p:Pl} {get:Nat->aj}:∀{xs:aa (aa A)} {ns:aa Int} {j:Nat},bytesOf xs=some ns->dF κ w [.d] p j get xs->ns.length=xs.length/\∀k n,ns[k]?=some n->get (j+k) = .int .u8 n
 | [],ns,j,h,_=>by simp only [bytesOf,aK] at h;subst h;simp
 | x::xs,ns,j,h,hr=>by
  unfold bytesOf at h;split at h
  ·rename_i h1;cases h1
  ·rename_i n xs' h1;cases h1;simp only [cO] at h;obtain ⟨ms,h2,rfl⟩:=h;simp only [dF,aB,RC] at hr;obtain ⟨h3,h4⟩:=Tm h2 hr.2;refine ⟨by simp [h3],fun k m hk => ?_⟩;cases k with
   | zero=>simp at hk;subst hk;simpa using hr.1.1.1
   | succ k=>
    have:=h4 k m (by simpa using hk);rw [show j+(k+1)=j+[CT.d].length+k from by simp;omega];exact this
  ·cases h
theorem akR {P:aR} {N:Nat} {g:Nat->TT} {o:bS} {S:Stp} (h:VD P N g o=some S):d_ P N o g S:=by
 unfold VD at h;split at h;case h_2=>cases h
 case h_1 d src dst x hd ho=>
 split at h;case h_2=>cases h
 case h_1 e t hs hds hx=>
 split at h;case h_2=>cases h
 case h_1 he=>
 split at h;case isFalse=>cases h
 case isTrue hdN=>
 cases h;intro ac κ0 κ w0 w tg sv s a v next Q hN hR hL hv bT;simp only [Stp.set,Eff.rel,Kq] at hv;split at hv;case h_2=>cases hv
 case h_1 xs is yP=>
 split at hv;case h_2=>cases hv
 case h_1 ns hns=>
 cases hv;obtain ⟨_,ao,cap,ko,cZ⟩:=al8 hR hL hx yP;refine iO hd hN hdN (w':=w) (x:=.string (dW ns)) ?_ (Oo hR hdN rfl (Grows.refl w)) bT;unfold execOp;rw [ho];simp only;refine dG ?_;rw [ko,run_convert_bytes_string w src dst e ao xs.length cap hs he hds];rcases cZ with rfl|⟨b,off,rfl,FF,lI⟩
 ·simp only [bytesOf,aK] at hns;subst hns;cases ao with
  | none=>rfl
  | some ad=>
   have:=run_bytesToString (P:=P) w ad 0 cap [] (by rfl);exact this
 ·obtain ⟨hl,hc⟩:=Tm hns lI;refine run_bytesToString (P:=P) w _ xs.length cap ns ?_;rw [run_loadCells (by simpa using FF)];congr 2;apply R6
  ·simp [hl]
  ·intro k hk mR;have hkn:k<ns.length:=by simpa using mR
   have:=hc k ns[k] (by simp [hkn]);simp only [cB] at this;simp [this]
def ab2 (P:aR) (N:Nat) (g:Nat->TT) (fG:Bool) (o:bS):ah Stp:=
 if fG then match o.dst,o.op with
  | some d,.slice ty (.tmp t) lo hi none=>match P.underlying ty,g t,Hy g lo,Hy g hi with
   | some (.slice et),.val false [.sl (.own pin) e],some L,some H=>match P.info? et with
    | some i=>if d<N/\t<N/\i.size=e.length/\CT.mens [t] [.sl (.own pin) e]=false/\(lo=none\/CT.nowns e=true) then
      some (Stp.mv d [t] (.val false [.sl (.own none) e]) [t] (.det (Bg t L H))) else none
    | none=>none
   | _,_,_,_=>none
  | _,_=>none
 else none
theorem ao1 {P:aR} {N:Nat} {g:Nat->TT} {fG:Bool} {o:bS} {S:Stp} (h:ab2 P N g fG o=some S):d_ P N o g S:=by
 unfold ab2 at h;split at h;case isFalse=>cases h
 split at h;case h_2=>cases h
 case h_1 d ty t lo hi hd ho=>
 split at h;case h_2=>cases h
 case h_1 et pin e L H hty hT Ho hHi=>
 split at h;case h_2=>cases h
 case h_1 i jw=>
 split at h;case isFalse=>cases h
 case isTrue hc=>
 obtain ⟨hdN,lV,dM,hm,fe⟩:=hc;cases h;intro ac κ0 κ w0 w tg sv s a v next Q hN hR hL hv bT;simp only [Stp.mv,Eff.rel,Bg] at hv;split at hv;case h_2=>cases hv
 case h_1 xs is yP=>
 split at hv;case h_2=>cases hv
 case h_1 l h hl hh=>
 split at hv;case isFalse=>cases hv
 case isTrue hb=>
 cases hv;have jG:=wB yP;obtain ⟨e1,e2⟩:=hL.at hT (by simp);have h1:=hR.tr t;rw [e1] at h1;simp only [TR] at h1;obtain ⟨as,vs,g1,g2,g3,_,g5⟩:=h1;rw [e2,jG] at g1;cases g1;have:=kr g2;subst this;have g5':=g5;simp only [aB] at g5;obtain ⟨um,_⟩:=g5;simp only [RC] at um;obtain ⟨ao,cap,hx,dD,tZ⟩:=um;simp only [uZ] at hx;have bJ:((xs.drop l).take (h-l)).length=h-l:=by rw [eU,kX];omega
 have ko:a.eval (.tmp t) = .slice ao xs.length cap:=hx;have fq:=Ol (P:=P) (t:=ty) (e:=et) (i:=i) (ao:=ao) (len:=xs.length) (cap:=cap) (lo:=lo.map a.eval) (hi:=hi.map a.eval) (l:=l) (h:=h) (w:=w) hty jw (zF hR hL Ho hl) (zF hR hL hHi hh) hb.1 (by omega);have bv:t≠FB:=Nat.ne_of_lt (mU lV hR.nle);have hnf:FB∉[t]:=fun hm=>bv (bY.1 hm).symm
 refine xh hd hN hdN (w':=w) (x:=.slice (if cap=l then ao else ao.map (·.add (l*i.size))) (h-l:Nat) (cap-l)) ?_ (DN (f:=fun _ k=>some [k]) (nb:=none) hR hdN hnf (Grows.refl w) (fun _ _ h=>by cases h) rfl ?_) bT
 ·unfold execOp;rw [ho];simp only;refine dG ?_;rw [ko];simpa using fq
 ·simp only [TR,bI];refine ⟨_,[_],rfl,rfl,rfl,gK rfl,?_⟩;simp only [aB,RC,uZ,bJ];refine ⟨⟨_,_,rfl,by omega,?_⟩,trivial⟩;rcases tZ with ⟨rfl,rfl⟩|⟨b,off,rfl,wT,hκ,hw,he⟩
  ·left;have:l=0:=by omega
   subst this;simp
  ·right;have hκ':aW κ (t_ [t] d fun _ k=>some [k]) none b=some (d,[0]):=by
    simp only [Pl.at,dN] at hκ;simp [aW,hκ,t_]
   have bz:∀S,(∀m,m∈[t]->m∉S)->∀b,bu κ w S b->bu (aW κ (t_ [t] d fun _ k=>some [k]) none) w S b/\Same w w b:=fun S hS b hb=>nJ (Grows.refl w) aoJ (fun _ _ h=>by cases h) hS b hb
   have hse:CT.allSs (fun S=>∀m,m∈[t]->m∉S) e:=by
    refine fw (fun S hS=>hS) ?_;simpa [CT.mens,CT.men] using hm
   by_cases mQ:cap=l
   ·rw [if_pos mQ];have hz:h-l=0:=by omega
    refine ⟨b,off,rfl,wT,by simpa [Pl.at] using hκ',fun q q1 q2 => ?_,?_⟩
    ·rw [mQ] at q2;simp at q2;omega
    ·rw [hz];simp [dF]
   ·rw [if_neg mQ];refine ⟨b,off+l*i.size,by simp only [dx];rw [zu],wT,by simpa [Pl.at] using hκ',?_,?_⟩
    ·rw [dM];refine hw.sub (by omega) ?_;have:l*e.length+(cap-l)*e.length=cap*e.length:=by rw [<-eD];congr 1;omega
     omega
    ·rw [dM];by_cases hl0:l=0
     ·subst hl0;have h5:=Ko (l:=h-0) he;have h6:=Kb (f:=id) (κ':=aW κ (t_ [t] d fun _ k=>some [k]) none) (w':=w) (p':=Pl.at (d,[]) 0) bz hse (fun b q hb=>⟨?_,Same.refl w b⟩) h5
      ·rw [iU] at h6;simpa using h6
      ·simp only [Pl.at,dN,Ap] at hb ⊢;simp [aW,hb,t_]
     ·have gU:CT.nowns e=true:=by
       rcases fe with hp|hp
       ·exfalso;rw [hp] at Ho;simp only [Hy,aK] at Ho;subst Ho;simp only [Bf,aK] at hl;exact hl0 hl.symm
       ·exact hp
      have h5:=Ko (l:=h-l) (VC (l:=l) he);rw [cB] at h5;have h6:=OC (p':=Pl.at (d,[]) 0) (j':=0) (get':=fun j=>cellD w b (off+l*e.length+j)) gU (fun q _=>by
       show cellD w b _=cellD w b _
       congr 1;omega) h5
      exact Vs bz gU hse h6
end Go.Fw
namespace Go.Fw
def Ct (r:Nat) (P:aa Nat) (base n:Nat) (srcs:aa Nat) (p:Pl):ah Pl:=
 if p.1=r then (if (List.range n).any (fun k=>(P++[base+k]).isPrefixOf p.2) then none else some p)
 else if p.1∈srcs then match p.2 with
  | k::q=>some (r,P++(base+k)::q)
  | []=>none
 else some p
theorem aDX {r base n:Nat} {P:aa Nat} {srcs:aa Nat}:∀r' q p,Ct r P base n srcs (r',q)=some p->r'∉r::srcs->p=(r',q):=by
 intro r' q p h hr;simp only [aY,not_or] at hr;simp only [Ct,hr.1,hr.2,if_false] at h;cases h;rfl
theorem Kr {r base n:Nat} {P q:aa Nat} {srcs:aa Nat} (h:∀k,k<n->¬P++[base+k] <+: q):Ct r P base n srcs (r,q)=some (r,q):=by
 simp only [Ct,if_true];rw [if_neg];simp only [sZ,jh,not_exists,not_and];intro k hk hh;exact h k hk (List.isPrefixOf_iff_prefix.1 hh)
section
variable {ac:Nat->Nat->aj} {κ0 κ:aP} {w0 w w':aA} {N:Nat} {tg:Nat->TT} {sv:Nat->AV} {tm:Nat->aj}
theorem av6 (h:R ac κ0 w0 κ w N tg sv tm) {r:Nat} (sM:r<N) {cs e:aa CT} {sk:Sk} {is S:aa Nat} {B O off:Nat} (ht:(tg r).cts=some cs) {ra row:aa A} (hs:sv r = .v ra [])
  (hp:IV κ w tg tm r sk is S B O) (ow:sk≠[]) (he:iF true cs sk=some e) (hl:b_ ra sk is=some row) {srcs:aa Nat} (qz:FB∉srcs) (pM:r∉srcs) {t:Nat} {cv:aa CT} {vs:aa aj} {as:aa A}
  (hv:Part κ w srcs t cv vs as) (hn:off+cv.length<=e.length) (dD:CT.les cv ((e.drop off).take cv.length)=true) (hm:CT.mens (r::srcs) cs=false) (hmv:CT.mens (r::srcs) cv=false) (JV:t∈srcs\/t=r\/True) :
  Wrb w B (O+off) (O+off+vs.length) /\
  R ac κ0 w0 (aW κ (Ct r (bX [] 0 sk is).1 ((bX [] 0 sk is).2+off) cv.length srcs) none) (bO w B (O+off) vs) N (upd (fun u=>if u∈srcs then .dead else (tg u).kill (r::srcs) (r::srcs)) r (tg r))
   (upd sv r (.v (lJ ra sk is (splice row off as)) [])) tm:=by
 have CL:=hv.len;have fF:=h.root ht hs;obtain ⟨b0,o,g1,jk,hW,cZ⟩:=DL (bo:=(rb (tg r) (tm r)).map fun b=>(b,0)) ow fF he hl;have ha:=hp.addr;simp only [iH] at ha;simp only [cB] at g1;rw [ha] at g1;simp only [aK,bU] at g1;obtain ⟨rfl,rfl⟩:=g1;have pK:is≠[]:=by
  rintro rfl;cases sk with
  | nil=>exact ow rfl
  | cons s sk=>cases s;simp [b_] at hl
 have aGH:(bX [] 0 sk is).1≠[]:=by simp [ar_ (sk:=sk) (is:=is) (p:=[]) (j:=0) ow pK]
 generalize hP:(bX [] 0 sk is).1=P at *
 generalize hj:(bX [] 0 sk is).2=j at *
 have fO:=kM vs w B (o+j+off);have dM:(bO w B (o+j+off) vs).heap.size=w.heap.size:=fO.1;have kw:∀b p,κ b=some p->aW κ (Ct r P (j+off) cv.length srcs) none b=Ct r P (j+off) cv.length srcs p:=fun b p hb=>rR (fun _ _ h=>by cases h) h.col hb
 have hWn:Wrb w B (o+j+off) (o+j+off+vs.length):=hW.sub (by omega) (by omega);refine ⟨hWn,?_⟩;have aGI:∀S,(∀m,m∈r::srcs->m∉S)->∀b,bu κ w S b->b≠B:=by
  rintro S hS b hb rfl;exact hS r (by simp) (hb.2 _ _ jk).1
 have bz:∀S,(∀m,m∈r::srcs->m∉S)->∀b,bu κ w S b->bu (aW κ (Ct r P (j+off) cv.length srcs) none) (bO w B (o+j+off) vs) S b/\Same w (bO w B (o+j+off) vs) b:=
  fun S hS b hb=>by
   have h1:=nJ (F:=Ct r P (j+off) cv.length srcs) (nb:=none) (Grows.refl w) aDX (fun _ _ h=>by cases h) hS b hb;exact ⟨⟨by rw [dM];exact h1.1.1,h1.1.2⟩,dJ (aGI S hS b hb)⟩
 have aGJ:aW κ (Ct r P (j+off) cv.length srcs) none B=κ B:=by
  rw [kw B _ jk,jk];refine Kr fun k hk hh => ?_
  have:=hh.length_le;rw [bq,J5] at this;omega
 -- the value,moved
 have WY:aB (aW κ (Ct r P (j+off) cv.length srcs) none) (bO w B (o+j+off) vs) cv (r,P) (j+off) (fun k=>vs.getD (k-(j+off)) undef) as:=by
  by_cases hts:t∈srcs
  ·have bv:t≠r:=by rintro rfl;exact pM hts
   have:=gH (f:=id) (P:=fun S=>∀m,m∈r::srcs->m∉S) (κ':=aW κ (Ct r P (j+off) cv.length srcs) none) (w':=bO w B (o+j+off) vs) (p':=(r,P)) (j':=j+off) (get':=fun k=>vs.getD (k-(j+off)) undef) bz
    (fw (fun S hS=>hS) hmv) (fun i hi b q hb=>⟨?_,dJ ?_⟩) (fun i hi=>by simp) hv.row
   ·rwa [iU] at this
   ·rw [kw b _ hb];simp [Ct,bv,hts]
   ·rintro rfl;rw [jk] at hb;simp only [aK,bU] at hb;exact bv hb.1.symm
  ·exact jU (P:=fun S=>∀m,m∈r::srcs->m∉S) bz (hv.own.resolve_left hts) (fw (fun S hS=>hS) hmv) (fun i hi=>by simp) hv.row
 have hme:=Bb hm he;have bJ:=dH cZ;have aJd:=dH hv.row;have vC:aB (aW κ (Ct r P (j+off) cv.length srcs) none) (bO w B (o+j+off) vs) e (r,P) j (fun k=>cellD (bO w B (o+j+off) vs) B (o+k)) (splice row off as):=by
  refine lY (by rw [lK (by omega)];exact bJ) fun k c a hc ha => ?_
  rw [nK (by omega)] at ha;have hk:=(bn hc).1;by_cases bF:off<=k/\k<off+cv.length
  ·rw [if_neg (by omega),if_pos (by omega)] at ha;have hh:=gZ (xm dD WY) (k:=k-off) (c:=c) (a:=a) (by rw [qR (by omega),oF,show off+(k-off)=k from by omega];exact hc) ha;have lD:=Ar (w:=w) (b:=B) (o:=o+j+off) (vs:=vs) hWn (k-off) (by omega);rw [show j+off+(k-off)=j+k from by omega] at hh;rw [show o+j+off+(k-off)=o+(j+k) from by omega] at lD;rw [lD];have e2:vs.getD (j+k-(j+off)) undef=vs[k-off]'(by omega):=by
    rw [show j+k-(j+off)=k-off from by omega];simp [dA,aZ (show k-off<vs.length by omega)]
   simp only [e2] at hh;first
    | exact hh
    | (rw [dA,aZ (by omega)];exact hh)
  ·have RF:row[k]?=some a:=by
    by_cases h1:k<off
    ·rwa [if_pos h1] at ha
    ·rw [if_neg h1,if_neg (by omega)] at ha;exact ha
   have h0:=gZ cZ hc RF;have lD:cellD (bO w B (o+j+off) vs) B (o+(j+k))=cellD w B (o+(j+k)):=by
    unfold cellD;rw [iJ,if_neg];rintro ⟨_,h1,h2⟩;exact bF ⟨by omega,by omega⟩
   rw [lD];refine wu (zt (fun S hS b hb=>bz S hS b hb) (vG hme hc)) (fun b q hb=>⟨?_,dJ ?_⟩) h0
   ·rw [kw b _ hb,hb];refine Kr fun m Ob fe => ?_
    simp only [Pl.at] at fe;rw [fJ] at fe;have:=nE (p:=P) (q:=q) (x:=j+off+m) (y:=j+k) (by simpa using fe);exact bF ⟨by omega,by omega⟩
   ·rintro rfl;rw [jk] at hb;simp [Pl.at] at hb
 have nW:∀get,(fun k=>get (0+k))=rg w (tg r) (tm r)->aB κ w cs (r,[]) 0 get ra ->
   aB (aW κ (Ct r P (j+off) cv.length srcs) none) (bO w B (o+j+off) vs) cs (r,[]) 0 get (lJ ra sk is (splice row off as)):=fun get Al aDe=>by
  refine IQ (bo:=(rb (tg r) (tm r)).map fun b=>(b,0)) ow aDe he hl (by rw [Al];exact ha) (fw (fun S hS b hb=>bz S hS b hb) hm)
   (fun b q hb oq jy=>⟨?_,dJ oq⟩) (fun hb=>by rw [dM];exact hb) aGJ
   (fun o' y nV hy=>⟨by rw [iJ,if_neg (by rintro ⟨_,h1,h2⟩;exact nV ⟨by omega,by omega⟩)];exact hy,fO.2.2.2.2.2 _ _⟩) (nH hW) (fun o' nV => ?_)
  ·rw [kw b _ hb,hb];refine Kr fun k hk fe => ?_
   rw [hP,hj] at jy;exact jy (off+k) (by omega) (by rw [<-jm];exact fe)
  ·rw [hj] at nV;have:o'=o:=by omega
   subst this;rw [hP,hj];exact vC
 refine uy (mods:=r::srcs) (M:=r::srcs) h (by have:=h.nle;simp only [aY,not_or];exact ⟨by omega,qz⟩) bz (fun b r' q jF hb => ?_) (fun u hu => ?_) (fun u hu => ?_) (fun u _=>rfl) (fun u hu => ?_) (fun u hu => ?_) (fun b hb => ?_) ?_
 ·simp at jF;refine ⟨?_,dJ ?_⟩
  ·rw [kw b _ hb,hb];simp [Ct,jF]
  ·rintro rfl;rw [jk] at hb;cases hb;exact jF.1 rfl
 ·simp at hu;left;simp only [upd,hu.1,hu.2,if_false]
 ·simp at hu;simp [upd,hu]
 ·by_cases yO:u=r
  ·subst yO;rw [bI];have h1:=h.tr u;cases hT:tg u with
   | val ag cs'=>
    rw [hT] at h1 ht;simp only [TT.cts,aK] at ht;subst ht;simp only [TR,bI] at h1 ⊢;obtain ⟨as',vs',k1,k2,k3,k4,k5⟩:=h1;rw [hs] at k1;cases k1;have lF:rg w (tg u) (tm u)=fun k=>vs'.getD k undef:=by rw [hT];funext k;simp [rg,k2]
    exact ⟨_,vs',rfl,k2,k3,k4,nW _ (by rw [lF];funext k;simp) k5⟩
   | box cs'=>
    rw [hT] at h1 ht;simp only [TT.cts,aK] at ht;subst ht;simp only [TR,bI] at h1 ⊢;obtain ⟨as',b,k1,k2,k3,k4,k5,k6,k7⟩:=h1;rw [hs] at k1;cases k1;have oq:b≠B:=by
     rintro rfl;rw [k4] at jk;simp only [aK,bU,true_and] at jk;exact aGH jk.symm
    have gy:=dJ (w:=w) (o:=o+j+off) (vs:=vs) oq;have lF:rg w (tg u) (tm u)=cellD w b:=by rw [hT];funext k;simp [rg,k2]
    have hu':=nW (cellD w b) (by rw [lF];funext k;simp) k7;have hcd:∀i,i<cs'.length->cellD (bO w B (o+j+off) vs) b i=cellD w b i:=fun i hi=>gy.cD k5.rdb (lN _) hi
    refine ⟨_,b,rfl,k2,by rw [dM];exact k3,?_,nH k5,fun k j' c e' hk=>by rw [hcd k (bn hk).1];exact k6 k j' c e' hk,
     mD (fun i _ hi=>hcd i (by simpa using hi)) hu'⟩
    rw [kw b _ k4];refine Kr fun k hk fe => ?_
    have:=fe.length_le;rw [bq,J5,bB] at this;omega
   | dead=>rw [hT] at ht;simp [TT.cts] at ht
   | alias=>rw [hT] at ht;simp [TT.cts] at ht
   | ptr=>rw [hT] at ht;simp [TT.cts] at ht
   | tup=>rw [hT] at ht;simp [TT.cts] at ht
  ·simp [yO] at hu;simp [upd,yO,hu,TR]
 ·have axo:u≠r:=by omega
  simp only [upd,axo,if_false,h.out u hu,TT.kill];split<;>rfl
 ·rw [dM] at hb;have:=h.col b hb;simp [aW,this]
 ·exact ⟨by rw [dM];exact h.fr.size,fun b hb h0=>⟨by have:=(h.fr.kept b hb h0).1;simp [aW,this],by
   have oq:b≠B:=by rintro rfl;rw [(h.fr.kept _ hb h0).1] at jk;cases jk
   rw [fO.2.2.2.2.1 b oq];exact (h.fr.kept b hb h0).2⟩,by rw [fO.2.1];exact h.fr.os,by rw [fO.2.2.1];exact h.fr.out,by rw [fO.2.2.2.1];exact h.fr.tape⟩
end
def OE (P:aR) (N:Nat) (g:Nat->TT) (o:bS):ah Stp:=
 match o.dst,o.op with
 | none,.store t p x=>match Xu g p,qg P g t 0 x,P.info? t with
  | some X,some V,some i=>match (g X.r).cts with
   | some cs=>match iF true cs X.sk with
    | some e=>
     if X.r<N/\V.cs.length=i.size/\X.off+V.cs.length<=e.length/\CT.lives V.cs=true/\X.sk≠[]/\X.r∉dP V/\CT.les V.cs ((e.drop X.off).take V.cs.length)=true/\CT.mens (X.r::dP V) cs=false/\CT.mens (X.r::dP V) V.cs=false/\CT.mens (dP V) V.cs=false then
      some ⟨(X.r,g X.r)::(dP V).map (fun t=>(t,.dead)),fun T=>T.kill (X.r::dP V) (X.r::dP V),X.r::(X.rd++V.rd),.det (nX X V)⟩
     else none
    | none=>none
   | none=>none
  | _,_,_=>none
 | _,_=>none
theorem aho {P:aR} {N:Nat} {g:Nat->TT} {o:bS} {S:Stp} (h:OE P N g o=some S):d_ P N o g S:=by
 unfold OE at h;split at h;case h_2=>cases h
 case h_1 t p x hd ho=>
 split at h;case h_2=>cases h
 case h_1 X V i hX hV hi=>
 split at h;case h_2=>cases h
 case h_1 cs pR=>
 split at h;case h_2=>cases h
 case h_1 e he=>
 split at h;case isFalse=>cases h
 case isTrue hc=>
 obtain ⟨sM,dM,yR,lW,ow,lG,dD,hmr,aGK,hmv⟩:=hc;cases h;intro ac κ0 κ w0 w tg sv s a v next Q hN hR hL hv bT;simp only [Eff.rel,nX] at hv;split at hv;case h_2=>cases hv
 case h_1 is ra as Am BN jL=>
 split at hv;case h_2=>cases hv
 case h_1 row cZ=>
 cases hv;obtain ⟨B,O,hp,ko⟩:=Ox hR hL hX Am;obtain ⟨sN,jJ⟩:=Bd hL pR;obtain ⟨ra',yQ⟩:=hR.sv_root sN;obtain ⟨is',iy⟩:=df BN;rw [jJ,iy] at yQ;cases yQ;have pM:sv X.r = .v ra []:=by rw [jJ,iy]
 obtain ⟨vs,h1,h2,h3⟩:=IY hR hL hV jL (srcs:=dP V) (fun ho=>by simp [dP,ho]) hmv;obtain ⟨_,_,_,_,_,qy,_⟩:=rT hR hL hV jL;have bv:g X.r≠.dead:=fun hg=>by rw [hg] at pR;simp [TT.cts] at pR
 obtain ⟨e1,e2⟩:=hL.at rfl bv;obtain ⟨hwr,jA⟩:=av6 hR sM sN pM hp ow he cZ (srcs:=dP V) (by unfold dP;split<;>simp;exact fun he=>qy he.symm) lG h2 (off:=X.off) yR dD hmr aGK (.inr (.inr trivial));refine Kj (w':=bO w B (O+X.off) vs) ?_ (bT undef _ _ _ (upd sv X.r (.v (lJ ra X.sk is (splice row X.off as)) [])) (by rw [hd,D8];exact jA) (fun u => ?_) (fun u => ?_))
 ·unfold execOp;rw [ho];simp only;have jK:=vJ h1;have bJ:=h2.len;have yS:=Vy bJ fun k hk=>by
   have:=Kl lW h2.row k hk;simpa using this
  have:=Au (P:=P) (t:=t) (i:=i) (b:=B) (o:=O+X.off) (v:=a.eval x) (w:=w) hi (by rw [<-RY,jK,bJ,dM]) (by rw [jK];exact yS) (by rw [<-dM,<-bJ];exact hwr);rw [ko,aF this,jK];rfl
 ·show _=aC _ ((X.r,g X.r)::(dP V).map fun t=>(t,TT.dead)) u;simp only [aC,upd,Ow,e1]
 ·show _=aC sv ((((X.r,g X.r)::(dP V).map fun t=>(t,TT.dead)).map (·.1)).zip [_]) u;simp [aC,upd]
end Go.Fw
namespace Go.Fw
theorem Tn {ac:Nat->Nat->aj} {cs:aa CT} {f:Nat->aj} (hn:CT.nowns cs=true):rO ac cs f:=by
 intro k j c e hc;have:=rT.nowns_nth hn hc;simp [CT.nown] at this
section
variable {ac:Nat->Nat->aj} {κ0 κ:aP} {w0 w w':aA} {N:Nat} {tg:Nat->TT} {sv:Nat->AV} {tm:Nat->aj}
theorem aBd (h:R ac κ0 w0 κ w N tg sv tm) {d t:Nat} (hd:d<N) {ws:aa (Bool × Nat)} {cs:aa CT} (ht:tg t = .tup ws cs)
  {off n:Nat} (hn:off+n<=cs.length) {g:Bool} {x:aj} {as:aa A} (hs:sv t = .v as []) (gU:CT.nowns ((cs.drop off).take n)=true)
  (hx:∀xs vs,tm t = .tuple xs->u_ ws xs.toList=some vs->cellsOf g x=some ((vs.drop off).take n)) :
  R ac κ0 w0 (aW κ (iV d) none) w N (kI tg d (.val g ((cs.drop off).take n))) (upd sv d (.v ((as.drop off).take n) [])) (upd tm d x):=by
 refine nI h hd (Grows.refl w) (fun _ _ h=>by cases h) ?_;have h1:=h.tr t;rw [ht] at h1;simp only [TR,bI] at h1 ⊢;obtain ⟨as',xs,vs,g1,g2,g3,g4,g5⟩:=h1;rw [hs] at g1;cases g1;refine ⟨_,_,rfl,hx xs vs g2 g3,by simp;omega,Tn gU,jU (P:=fun _=>True) (j:=off) (get:=fun k=>vs.getD k undef) (fun S _ b hb=>mI (Grows.refl w) (fun _ _ h=>by cases h) S b hb) gU (iK (fun _=>trivial) _) (fun i hi => ?_) (by simpa using mH n (mG off g5))⟩;have jw:i<n:=by simp at hi;omega
 simp only [dA];rw [cB,qR jw,oF]
theorem asC {cs:aa CT} {off n:Nat} {f:Nat->aj} (h:rO ac cs f):rO ac (iT off n cs) f:=by
 intro k j c e hc;rw [wy] at hc;cases h0:cs[k]? with
 | none=>simp [h0] at hc
 | some c0=>
  simp only [h0,dx,aK] at hc;split at hc
  ·cases c0<;>simp [ww] at hc
  ·subst hc;exact h k j c e h0
theorem aBe (h:R ac κ0 w0 κ w N tg sv tm) {d t:Nat} (hd:d<N) (lV:t<N) (zi:d≠t) {cs:aa CT} (ht:tg t = .val true cs) (hm:CT.mens [t] cs=false)
  {off n:Nat} (hn:off+n<=cs.length) {g:Bool} {x:aj} {as:aa A} (hs:sv t = .v as []) (jy:h_ ((cs.drop off).take n)=true)
  (hx:∀vs,cellsOf true (tm t)=some vs->cellsOf g x=some ((vs.drop off).take n)) :
  R ac κ0 w0 (aW κ (iW t off n d) none) w N (upd (upd (fun u=>(tg u).kill [d,t] [t]) t (.val true (iT off n cs))) d (.val g ((cs.drop off).take n))) (upd sv d (.v ((as.drop off).take n) [])) (upd tm d x):=by
 have h1:=h.tr t;rw [ht] at h1;simp only [TR] at h1;obtain ⟨as',vs,g1,g2,g3,g4,g5⟩:=h1;rw [hs] at g1;cases g1;have mr:∀i,i<n->((vs.drop off).take n).getD i undef=vs.getD (off+i) undef:=by
  intro i hi;simp only [dA];rw [qR hi,oF]
 refine agX h hd zi g5 hm hn (hx vs g2) (by simp;omega) mr (gK jy) (fun κ' hκ AZ _ => ?_) lV;simp only [TR,upd_ne _ _ _ (ig zi)];exact ⟨_,vs,hs,g2,by rw [jo];exact g3,asC g4,AZ⟩
end
def ab3 (N:Nat) (g:Nat->TT) (o:bS):ah Stp:=
 match o.dst,o.op with
 | some d,.extract (.tmp t) i=>match g t with
  | .tup ws cs=>match ws[i]? with
   | some (ag,n)=>if d<N/\woff ws i+n<=cs.length/\CT.nowns ((cs.drop (woff ws i)).take n)=true then
     some (Stp.set d (.val ag ((cs.drop (woff ws i)).take n)) [t] (.det (uD t (woff ws i) n))) else none
   | none=>none
  | _=>none
 | _,_=>none
theorem ao2 {P:aR} {N:Nat} {g:Nat->TT} {o:bS} {S:Stp} (h:ab3 N g o=some S):d_ P N o g S:=by
 unfold ab3 at h;split at h;case h_2=>cases h
 case h_1 d t i hd ho=>
 split at h;case h_2=>cases h
 case h_1 ws cs hT=>
 split at h;case h_2=>cases h
 case h_1 ag n hw=>
 split at h;case isFalse=>cases h
 case isTrue hc=>
 obtain ⟨hdN,hn,gU⟩:=hc;cases h;intro ac κ0 κ w0 w tg sv s a v next Q hN hR hL hv bT;simp only [Stp.set,Eff.rel,uD,cO] at hv;obtain ⟨as,hg,rfl⟩:=hv;obtain ⟨e1,e2⟩:=hL.at hT (by simp);have h1:=hR.tr t;rw [e1] at h1;simp only [TR] at h1;obtain ⟨as',xs,vs,g1,g2,g3,g4,g5⟩:=h1;obtain ⟨is,hs⟩:=df hg;rw [e2,hs] at g1;cases g1;obtain ⟨x,hx,hcx,_⟩:=OB g3 hw;refine iO (d:=d) (x:=x) (w':=w) hd hN hdN ?_ (aBd hR hdN e1 hn (g:=ag) (x:=x) (as:=as) (by rw [e2,hs]) gU (fun xs' vs' k1 k2=>by
  rw [g2] at k1;cases k1
  rw [g3] at k2;cases k2
  exact hcx)) bT
 unfold execOp;rw [ho];simp only;refine dG ?_;have ko:a.eval (.tmp t)=gm a t:=rfl;rw [ko,g2];unfold Instr.extract;simp only;have zh:xs[i]?=some x:=by simpa using hx
 rw [zh];rfl
theorem asD {P:aR} {st:TypeId} {fs:Array Field} {f:Nat} {fi:Field} {i:TypeInfo} {ag:Bool} {x:aj} {vs:aa aj} {w:aA} (hu:P.underlying st=some (.struct fs)) (hf:fs[f]?=some fi)
  (hi:P.info? fi.type=some i) (hg:w9 P fi.type=some ag) (hx:cellsOf true x=some vs) (h1:ag=true\/i.size=1) (hn:fi.offset+i.size<=vs.length) (BP:∀y,vs[fi.offset]?=some y->ag=false->∀us,y≠.agg us/\y≠.tuple us) :
  ∃y,(Instr.field st x f).run P w = .ok y w/\cellsOf ag y=some ((vs.drop fi.offset).take i.size):=by
 cases x<;>simp [cellsOf] at hx;rename_i cells;unfold Instr.field;rw [aF (run_underlying hu w)];simp only [hf];rw [aF (show (asAgg (.agg cells)).run P w = .ok cells w from rfl)];unfold part;rw [aF (F3 hg w)];cases ag with
 | true=>
  simp only [if_true];rw [aF (run_sizeOf hi w)];refine ⟨_,rfl,?_⟩;simp only [cellsOf,aK];rw [<-hx];simp [Array.toList_extract]
 | false=>
  simp only [eQ,if_false];have hs:i.size=1:=by simpa using h1
  have hl:fi.offset<vs.length:=by omega
  have hc:cells[fi.offset]?=some (vs[fi.offset]):=by
   rw [<-Array.getElem?_toList];simp only [hx];exact aZ hl
  rw [hc];refine ⟨_,rfl,?_⟩;rw [hs,BX hl];have:=BP _ (aZ hl) rfl;cases hv:vs[fi.offset] with
  | agg us=>exact absurd hv (this us).1
  | tuple us=>exact absurd hv (this us).2
  | _=>simp [cellsOf]
def TT.vcs:TT->ah (aa CT)
 | .val true cs=>some cs
 | .alias true cs _ _ _ _=>some cs
 | _=>none
def TT.isV:TT->Bool
 | .val _ _=>true
 | _=>false
def ahp (P:aR) (N:Nat) (g:Nat->TT) (o:bS):ah Stp:=
 match o.dst,o.op with
 | some d,.field st (.tmp t) f=>match P.underlying st with
  | some (.struct fs)=>match fs[f]? with
   | some fi=>match P.info? fi.type,w9 P fi.type,(g t).vcs with
    | some i,some ag,some cs=>
     if d<N/\t<N/\fi.offset+i.size<=cs.length/\(ag=true\/i.size=1)/\CT.lives ((cs.drop fi.offset).take i.size)=true then
      if CT.nowns ((cs.drop fi.offset).take i.size)=true then some (Stp.set d (.val ag ((cs.drop fi.offset).take i.size)) [t] (.det (uD t fi.offset i.size)))
      else if (g t).isV=true/\d≠t/\CT.mens [t] cs=false/\h_ ((cs.drop fi.offset).take i.size)=true then
       some ⟨[(d,.val ag ((cs.drop fi.offset).take i.size)),(t,.val true (iT fi.offset i.size cs))],fun T=>T.kill [d,t] [t],[t],.det (uD t fi.offset i.size)⟩
      else none
     else none
    | _,_,_=>none
   | none=>none
  | _=>none
 | _,_=>none
theorem aBf {ac:Nat->Nat->aj} {κ:aP} {w:aA} {tg:Nat->TT} {sv:Nat->AV} {tm:Nat->aj} {t:Nat} {T:TT} {cs:aa CT} (hc:T.vcs=some cs) (h:TR ac κ w tg sv tm t T) :
  ∃as is vs,sv t = .v as is/\cellsOf true (tm t)=some vs/\vs.length=cs.length/\aB κ w cs (t,[]) 0 (fun k=>vs.getD k undef) as:=by
 cases T with
 | val ag cs'=>
  cases ag<;>simp only [TT.vcs,aK,reduceCtorEq] at hc;subst hc;simp only [TR] at h;obtain ⟨as,vs,g1,g2,g3,g4,g5⟩:=h;exact ⟨as,_,vs,g1,g2,g3,g5⟩
 | alias ag cs' r sk off S=>
  cases ag<;>simp only [TT.vcs,aK,reduceCtorEq] at hc;subst hc;simp only [TR] at h;obtain ⟨as,is,vs,gf,ra,row,g1,g2,g3,g4,g5,_⟩:=h;exact ⟨as,is,vs,g1,g2,g3,g5⟩
 | _=>simp [TT.vcs] at hc
theorem asE {P:aR} {N:Nat} {g:Nat->TT} {o:bS} {S:Stp} (h:ahp P N g o=some S):d_ P N o g S:=by
 unfold ahp at h;split at h;case h_2=>cases h
 case h_1 d st t f hd ho=>
 split at h;case h_2=>cases h
 case h_1 fs hu=>
 split at h;case h_2=>cases h
 case h_1 fi hf=>
 split at h;case h_2=>cases h
 case h_1 i ag cs hi hg hT=>
 split at h;case isFalse=>cases h
 case isTrue hc=>
 obtain ⟨hdN,lV,hn,h1,lW⟩:=hc;have key:∀{ac:Nat->Nat->aj} {κ0 κ:aP} {w0 w:aA} {tg:Nat->TT} {sv s:Nat->AV} {a:Act} {as:aa A},R ac κ0 w0 κ w N tg sv (gm a)->Le g s tg sv->iM t s=some as ->
   ∃is vs x,tg t=g t/\sv t = .v as is/\cellsOf true (gm a t)=some vs/\(execOp a.eval o).run P w = .ok (.value x) w/\cellsOf ag x=some ((vs.drop fi.offset).take i.size)/\vs.length=cs.length/\aB κ w cs (t,[]) 0 (fun k=>vs.getD k undef) as:=by
  intro ac κ0 κ w0 w tg sv s a as hR hL hgA;obtain ⟨e1,e2⟩:=hL.at (T:=g t) rfl (by intro h;rw [h] at hT;simp [TT.vcs] at hT);have h2:=hR.tr t;rw [e1] at h2;obtain ⟨as',is,vs,g1,g2,g3,g4⟩:=aBf hT h2;obtain ⟨is',hs⟩:=df hgA;rw [e2,hs] at g1;cases g1;have gX:=mH i.size (mG fi.offset g4);obtain ⟨y,Ry,hy2⟩:=asD (w:=w) hu hf hi hg g2 h1 (by omega) (fun y hy N_=>by
   have lH:i.size=1:=by rcases h1 with h1|h1<;>simp_all
   have hl1:((cs.drop fi.offset).take i.size).length=1:=by simp;omega
   have:=gZ (k:=0) gX (aZ (by omega)) (aZ (by rw [dH gX];omega))
   have yS:=IW (rQ lW (aZ (by omega))) this
   have:=R_ yS
   simpa [dA,hy] using this)
  refine ⟨is,vs,y,e1,by rw [e2,hs],g2,?_,hy2,g3,g4⟩;unfold execOp;rw [ho];simp only;exact dG Ry
 split at h;case isTrue gU=>
  cases h;intro ac κ0 κ w0 w tg sv s a v next Q hN hR hL hv bT;simp only [Stp.set,Eff.rel,uD,cO] at hv;obtain ⟨as,hgA,rfl⟩:=hv;obtain ⟨is,vs,x,e1,hs,mr,fq,hcx,hl,um⟩:=key hR hL hgA;refine iO (d:=d) (x:=x) (w':=w) hd hN hdN fq (κ':=aW κ (iV d) none) ?_ bT;refine nI hR hdN (Grows.refl w) (fun _ _ h=>by cases h) ?_;simp only [TR,bI];refine ⟨_,_,rfl,hcx,by simp;omega,Tn gU,jU (P:=fun _=>True) (j:=fi.offset) (get:=fun k=>vs.getD k undef) (fun S _ b hb=>mI (Grows.refl w) (fun _ _ h=>by cases h) S b hb) gU (iK (fun _=>trivial) _) (fun k hk => ?_) (by simpa using mH i.size (mG fi.offset um))⟩;have mR:k<i.size:=by simp at hk;omega
  simp only [dA];rw [cB,qR mR,oF]
 case isFalse gU=>
  split at h;case isFalse=>cases h
  case isTrue hc2=>
  obtain ⟨hV,zi,hm,jy⟩:=hc2;cases h;intro ac κ0 κ w0 w tg sv s a v next Q hN hR hL hv bT;simp only [Eff.rel,uD,cO] at hv;obtain ⟨as,hgA,rfl⟩:=hv;obtain ⟨is,vs,x,e1,hs,mr,fq,hcx,hl,um⟩:=key hR hL hgA;have WY:g t = .val true cs:=by
   cases NW:g t with
   | val ag' cs'=>rw [NW] at hT;cases ag'<;>simp [TT.vcs] at hT;rw [hT]
   | _=>rw [NW] at hV;simp [TT.isV] at hV
  have pK:is=[]:=by
   have h2:=hR.tr t;rw [e1,WY] at h2;simp only [TR] at h2;obtain ⟨_,_,g1,_⟩:=h2;rw [hs] at g1;cases g1;rfl
  subst pK;have jA:=aBe hR hdN lV zi (by rw [e1,WY]) hm hn (g:=ag) (x:=x) (as:=as) hs jy (fun vs' k1=>by rw [mr] at k1;cases k1;exact hcx);refine Ki (w':=w) (x:=x) fq (bT x w _ _ _ (by rw [hd,qf (a:=a) (by rw [hN];exact hdN)];exact jA) (fun u => ?_) (fun u => ?_))
  ·simp only [aC,upd]
  ·simp [aC,upd]
end Go.Fw
namespace Go.Fw
mutual
def CT.frz:CT->CT
 | .d=>.d
 | .sl (.own _) e=>.sl (.ro []) (CT.frzs e)
 | .sl m e=>.sl m (CT.frzs e)
def CT.frzs:aa CT->aa CT
 | []=>[]
 | c::cs=>c.frz::CT.frzs cs
end
theorem jS:∀cs:aa CT,(CT.frzs cs).length=cs.length
 | []=>rfl
 | c::cs=>by simp [CT.frzs,jS cs]
section
variable {κ κ':aP} {w:aA} {t m:Nat}
mutual
theorem aBg (bz:∀S b,bu κ w S b->bu κ' w S b) (hk:∀b q,κ b=some (t,q)->m<=q.length->κ' b=none):∀{c:CT} {p:Pl} {x:aj} {a:A},p.1=t->m<=p.2.length->RC κ w c p x a->RC κ' w c.frz p x a
 | .d,_,_,.v _,_,_,h=>by simpa only [CT.frz,RC] using h
 | .d,_,_,.s _,_,_,h=>by simp [RC] at h
 | .sl (.own k) e,p,x,.s xs,hp,hm,h=>by
  simp only [CT.frz,RC,jS] at h ⊢;obtain ⟨ao,cap,h1,h2,h3⟩:=h;refine ⟨ao,cap,h1,h2,?_⟩;rcases h3 with ⟨rfl,rfl⟩|⟨b,o,g1,g2,g3,g4,g5⟩
  ·left;exact nz.1 (by omega)
  ·right;have hb:κ' b=none:=hk b p.2 (by rw [g3,<-hp]) hm;refine ⟨b,o,g1,⟨g2,fun r q hq=>by rw [hb] at hq;cases hq⟩,fun o' h1 BQ=>(g4 o' h1 ?_).1,I7 bz hk hp (by omega) g5⟩;have:=jg e.length h2;omega
 | .sl (.ro S) e,p,x,.s xs,hp,hm,h=>by
  simp only [CT.frz,RC,jS] at h ⊢;obtain ⟨ao,cap,h1,h2,h3⟩:=h;refine ⟨ao,cap,h1,h2,?_⟩;rcases h3 with h3|⟨b,o,g1,g2,g3,g4⟩
  ·exact .inl h3
  ·exact .inr ⟨b,o,g1,bz S b g2,g3,I7 bz hk hp (by omega) g4⟩
 | .sl .dead e,p,x,.s xs,_,_,h=>by simp [CT.frz,RC]
 | .sl .dead e,p,x,.v _,_,_,h=>by simp [CT.frz,RC]
 | .sl (.own k) e,p,x,.v _,_,_,h=>by simp [RC] at h
 | .sl (.ro S) e,p,x,.v _,_,_,h=>by simp [RC] at h
theorem ab4 (bz:∀S b,bu κ w S b->bu κ' w S b) (hk:∀b q,κ b=some (t,q)->m<=q.length->κ' b=none):∀{cs:aa CT} {p:Pl} {j:Nat} {get:Nat->aj} {as:aa A},p.1=t->m<=p.2.length+1->aB κ w cs p j get as->aB κ' w (CT.frzs cs) p j get as
 | [],_,_,_,[],_,_,_=>by simp [CT.frzs,aB]
 | [],_,_,_,_::_,_,_,h=>by simp [aB] at h
 | c::cs,p,j,get,[],_,_,h=>by simp [aB] at h
 | c::cs,p,j,get,a::as,hp,hm,h=>by
  simp only [CT.frzs,aB] at h ⊢;exact ⟨aBg bz hk (by simpa [Pl.at] using hp) (by simpa [Pl.at] using hm) h.1,ab4 bz hk hp hm h.2⟩
theorem I7 (bz:∀S b,bu κ w S b->bu κ' w S b) (hk:∀b q,κ b=some (t,q)->m<=q.length->κ' b=none):∀{e:aa CT} {p:Pl} {j:Nat} {get:Nat->aj} {xs:aa (aa A)},p.1=t->m<=p.2.length+1->dF κ w e p j get xs->dF κ' w (CT.frzs e) p j get xs
 | _,_,_,_,[],_,_,_=>by simp [dF]
 | e,p,j,get,x::xs,hp,hm,h=>by
  simp only [dF,jS] at h ⊢;exact ⟨ab4 bz hk hp hm h.1,I7 bz hk hp hm h.2⟩
end
end
def CT.inn:CT->CT
 | .sl (.own k) e=>.sl (.own k) (CT.frzs e)
 | c=>c.frz
def zG (t m:Nat) (κ:aP):aP:=fun b=>
 match κ b with
 | some (r,q)=>if r=t/\m<=q.length then none else some (r,q)
 | none=>none
theorem adl {t m:Nat} {κ:aP} {b:Nat} (h:κ b=none):zG t m κ b=none:=by simp [zG,h]
theorem OG {t m:Nat} {κ:aP} {b r:Nat} {q:aa Nat} (h:zG t m κ b=some (r,q)):κ b=some (r,q):=by
 unfold zG at h;split at h
 ·rename_i hk;split at h
  ·cases h
  ·rw [hk];exact h
 ·cases h
theorem ami {t m:Nat} {κ:aP} {b r:Nat} {q:aa Nat} (h:κ b=some (r,q)) (hr:r≠t\/q.length<m):zG t m κ b=some (r,q):=by
 unfold zG;rw [h];simp only;rw [if_neg (by rintro ⟨h1,h2⟩;rcases hr with hr|hr<;>first|exact hr h1|omega)]
theorem azW {κ:aP} {w:aA} {t:Nat}:∀{cs:aa CT} {j:Nat} {get:Nat->aj} {as:aa A},aB κ w cs (t,[]) j get as->aB (zG t 2 κ) w (cs.map CT.inn) (t,[]) j get as:=by
 have bz:∀S b,bu κ w S b->bu (zG t 2 κ) w S b:=fun S b hb=>⟨hb.1,fun r q hq=>hb.2 r q (OG hq)⟩
 have hk:∀b q,κ b=some (t,q)->2<=q.length->zG t 2 κ b=none:=fun b q hb hq=>by simp [zG,hb,hq]
 intro cs;induction cs with
 | nil=>intro j get as h;cases as<;>simp [aB] at h ⊢
 | cons c cs ih=>
  intro j get as h;cases as with
  | nil=>simp [aB] at h
  | cons a as=>
   simp only [aB,bf] at h ⊢;refine ⟨?_,ih h.2⟩;have h1:=h.1;cases c with
   | d=>cases a<;>simp only [CT.inn,CT.frz,RC] at h1 ⊢;exact h1
   | sl md e=>
    cases a with
    | v y=>cases md<;>simp [CT.inn,CT.frz,RC] at h1 ⊢
    | s xs=>
     cases md with
     | own k=>
      simp only [CT.inn,RC,jS] at h1 ⊢;obtain ⟨ao,cap,g1,g2,g3⟩:=h1;refine ⟨ao,cap,g1,g2,?_⟩;rcases g3 with g3|⟨b,o,k1,k2,k3,k4,k5⟩
      ·exact .inl g3
      ·exact .inr ⟨b,o,k1,k2,ami k3 (.inr (by simp)),k4,I7 bz hk (by simp [Pl.at]) (by simp [Pl.at]) k5⟩
     | ro S=>
      simp only [CT.inn,CT.frz,RC,jS] at h1 ⊢;obtain ⟨ao,cap,g1,g2,g3⟩:=h1;refine ⟨ao,cap,g1,g2,?_⟩;rcases g3 with g3|⟨b,o,k1,k2,k3,k4⟩
      ·exact .inl g3
      ·exact .inr ⟨b,o,k1,bz S b k2,k3,I7 bz hk (by simp [Pl.at]) (by simp [Pl.at]) k4⟩
     | dead=>simp [CT.inn,CT.frz,RC]
def CT.deep:CT->Bool
 | .sl (.own _) e=>!CT.nowns e
 | _=>false
def zH (cs:aa CT):Nat × aa CT:=if cs.any CT.deep then (2,cs.map CT.inn) else (1,CT.frzs cs)
theorem av7 (cs:aa CT):(zH cs).2.length=cs.length:=by
 unfold zH;split<;>simp [jS]
theorem av8 {κ:aP} {w:aA} {t:Nat} {cs:aa CT} {get:Nat->aj} {as:aa A} (h:aB κ w cs (t,[]) 0 get as):aB (zG t (zH cs).1 κ) w (zH cs).2 (t,[]) 0 get as:=by
 unfold zH;split
 ·exact azW h
 ·exact ab4 (t:=t) (m:=1) (fun S b hb=>⟨hb.1,fun r q hq=>hb.2 r q (OG hq)⟩) (fun b q hb hq=>by simp [zG,hb,hq]) rfl (by simp) h
def XH (N:Nat) (g:Nat->TT) (t:Nat):ah Stp:=
 match g t with
 | .val ag cs=>if t<N/\h_ (zH cs).2=true then some ⟨[(t,.val ag (zH cs).2)],fun T=>T.kill [t] [],[t],.det (gP t)⟩ else none
 | _=>none
theorem aDY {ac:Nat->Nat->aj} {κ0 κ:aP} {w0 w:aA} {N:Nat} {tg:Nat->TT} {sv:Nat->AV} {tm:Nat->aj} (h:R ac κ0 w0 κ w N tg sv tm) {t:Nat} {ag:Bool} {cs:aa CT} (ht:tg t = .val ag cs) (lV:t<N) (jy:h_ (zH cs).2=true) :
  R ac κ0 w0 (zG t (zH cs).1 κ) w N (aC (fun u=>(tg u).kill [t] []) [(t,.val ag (zH cs).2)]) sv tm:=by
 refine uy (mods:=[t]) (M:=[]) h ?_ (fun S hS b hb=>⟨⟨hb.1,fun r q hq=>hb.2 r q (OG hq)⟩,Same.refl w b⟩) (fun b r q hr hb => ?_) (fun r hr => ?_) (fun _ _=>rfl) (fun _ _=>rfl) (fun u hu => ?_) (fun u hu => ?_) (fun b hb=>adl (h.col b hb)) ?_
 ·have:=h.nle;simp only [bY];omega
 ·simp only [bY] at hr;exact ⟨by rw [hb];exact ami hb (.inl hr),Same.refl w b⟩
 ·simp only [bY] at hr;left;simp [aC,hr]
 ·simp only [bY] at hu;subst hu;have h1:=h.tr u;rw [ht] at h1;simp only [TR] at h1;obtain ⟨as,vs,g1,g2,g3,_,g5⟩:=h1;simp only [aC,if_true,TR];exact ⟨as,vs,g1,g2,by rw [g3,av7],gK jy,av8 g5⟩
 ·have:u≠t:=by omega
  simp only [aC,if_neg this,h.out u hu];rfl
 ·refine ⟨h.fr.size,fun b hb h0 => ?_,h.fr.os,h.fr.out,h.fr.tape⟩;have:=h.fr.kept b hb h0;exact ⟨adl this.1,this.2⟩
theorem aBh {P:aR} {N:Nat} {g:Nat->TT} {o:bS} {t:Nat} {S1 S2:Stp} (h1:XH N g t=some S1) (h2:d_ P N o (rU g S1) S2) (hv:∀s v,S2.eff.rel P s v->v.length<=S2.up.length) :
  d_ P N o g (Stp.take t S1 S2):=by
 intro ac κ0 κ w0 w tg sv s a v next Q hN hR hL hv0 bT;simp only [Stp.take] at hv0;obtain ⟨s1,lH,ky⟩:=Eff.pre_rel hv0;simp only [F4] at lH;split at lH;case h_2=>cases lH
 case h_1 as jL=>
 cases lH;unfold XH at h1;split at h1;case h_2=>cases h1
 case h_1 ag cs hT=>
 split at h1;case isFalse=>cases h1
 case isTrue hc=>
 cases h1;obtain ⟨e1,e2⟩:=hL.at hT (by simp);have jA:=aDY hR e1 hc.1 hc.2;have jG:s t = .v as []:=by
  have h5:=hR.tr t;rw [e1] at h5;simp only [TR] at h5;obtain ⟨as',vs,k1,_⟩:=h5;rw [e2] at k1;obtain ⟨is,pK⟩:=df jL;rw [k1] at pK;cases pK;exact k1
 have nW:upd s t (.v as [])=s:=by
  funext u;unfold upd;split
  ·rename_i hu;rw [hu,jG]
  ·rfl
 rw [nW] at ky;have hL':Le (rU g ⟨[(t,.val ag (zH cs).2)],fun T=>T.kill [t] [],[t],.det (gP t)⟩) s (aC (fun u=>(tg u).kill [t] []) [(t,.val ag (zH cs).2)]) sv:=by
  intro u;simp only [rU,aC];by_cases FJ:u=t
  ·right;subst FJ;exact ⟨by simp,e2.symm⟩
  ·simp only [if_neg FJ];rcases hL u with h3|⟨h3,h4⟩
   ·left;rw [h3];rfl
   ·right;exact ⟨by rw [h3],h4⟩
 refine h2 ac κ0 _ w0 w _ sv s a v next Q hN jA hL' ky fun x w' κ'' tg'' sv'' ako abH abI => ?_
 have CL:=hv _ _ ky;refine bT x w' κ'' tg'' sv'' ako (fun u => ?_) (fun u => ?_)
 ·rw [abH u];simp only [Stp.take];rw [Ea];by_cases hu:u∈S2.up.map (·.1)
  ·exact bR.upds_in hu
  ·rw [bR.upds_out hu,bR.upds_out hu];simp only [aC,bf,bQ];split<;>rfl
 ·rw [abI u];simp only [Stp.take];have hz:((S2.up++[(t,TT.val ag (zH cs).2)].map fun p=>(p.1,S2.kl p.2)).map (·.1)).zip v=(S2.up.map (·.1)).zip v:=by
   rw [wV];exact I5 (by simpa using CL)
  rw [hz]
end Go.Fw
namespace Go.Fw
def I8 (a b:ah Stp):ah Stp:=
 match a with
 | some x=>some x
 | none=>b
theorem kS {a b:ah Stp} {S:Stp} (h:I8 a b=some S):a=some S\/b=some S:=by
 unfold I8 at h;split at h
 ·exact .inl h
 ·exact .inr h
def Eff.cap (n:Nat):Eff->Eff
 | .det f=>.det fun s=>match f s with
  | some v=>if v.length<=n/\0<v.length then some v else none
  | none=>none
 | .call K sg args post=>.call K sg args fun res outs s=>match post res outs s with
  | some v=>if v.length<=n/\0<v.length then some v else none
  | none=>none
theorem Eff.cap_rel {P:aR} {n:Nat} {E:Eff} {s:Nat->AV} {v:aa AV} (h:(E.cap n).rel P s v):E.rel P s v/\v.length<=n/\0<v.length:=by
 cases E with
 | det f=>
  simp only [Eff.cap,Eff.rel] at h ⊢;split at h
  ·rename_i v' hv;split at h
   ·cases h;exact ⟨hv,by assumption⟩
   ·cases h
  ·cases h
 | call K sg args post=>
  simp only [Eff.cap,Eff.rel] at h ⊢;obtain ⟨as,res,outs,h1,h2,h3⟩:=h;split at h3
  ·rename_i v' hv;split at h3
   ·cases h3;exact ⟨⟨as,res,outs,h1,h2,hv⟩,by assumption⟩
   ·cases h3
  ·cases h3
def Stp.cap (S:Stp):Stp:=⟨S.up,S.kl,S.rd,S.eff.cap S.up.length⟩
theorem aBi {P:aR} {N:Nat} {o:bS} {g:Nat->TT} {S:Stp} (h:d_ P N o g S):d_ P N o g S.cap:=by
 intro ac κ0 κ w0 w tg sv s a v next Q hN hR hL hv bT;exact h ac κ0 κ w0 w tg sv s a v next Q hN hR hL (Eff.cap_rel hv).1 bT
def av9 (P:aR) (sigs:FuncId->ah aO) (N:Nat) (g:Nat->TT) (fG:Bool) (o:bS):ah Stp:=
 match o.op with
 | .move _=>zy P N g fG o
 | .assign _=>I8 (ahk N g fG o) (zy P N g fG o)
 | .nilCheck _=>zy P N g fG o
 | .alloc _=>Xx P N g o
 | .box _ _=>Xx P N g o
 | .build _ _=>VA P N g o
 | .buildSlice _ _ _=>ag8 P N g o
 | .load _ _=>abU P N g o
 | .store _ _ _=>I8 (zz P N g o) (OE P N g o)
 | .fieldAddr _ _ _=>Vu P N g o
 | .indexAddr _ _ _=>Vv P N g o
 | .makeSlice _ _ _=>abX P N g o
 | .extract _ _=>I8 (ab3 N g o) (ahh N g o)
 | .field _ _ _=>I8 (ahp P N g o) (wz P N g o)
 | .slice _ _ _ _ _=>I8 (ab2 P N g fG o) (I8 (ab0 P N g fG o) (I8 (ahi P N g o) (wz P N g o)))
 | .binOp _ _ _ _ _=>I8 (ahn P N g o) (wz P N g o)
 | .convert _ _ _=>I8 (VD P N g o) (wz P N g o)
 | .call c=>match c.callee with
  | .builtin .append=>Oz P N g o
  | .builtin _=>I8 (ag2 P N g o) (wz P N g o)
  | _=>I8 (abY P sigs N g o) (VB P sigs N g o)
 | _=>wz P N g o
theorem azX {P:aR} {sigs:FuncId->ah aO} {N:Nat} {g:Nat->TT} {fG:Bool} {o:bS} {S:Stp} (h:av9 P sigs N g fG o=some S):d_ P N o g S:=by
 unfold av9 at h;split at h<;>first
  | exact Xt h
  | exact ase h
  | exact akP h
  | exact ash h
  | exact aoS h
  | exact akM h
  | exact akN h
  | exact aoW h
  | exact tu h
  | (split at h
     ·exact ag4 h
     ·rcases kS h with h|h
      ·exact asf h
      ·exact tu h
     ·rcases kS h with h|h
      ·exact aoY h
      ·exact akQ h)
  | (rcases kS h with h|h
     ·exact ao2 h
     ·exact asv h)
  | (rcases kS h with h|h
     ·exact asE h
     ·exact tu h)
  | (rcases kS h with h|h
     ·exact asz h
     ·exact Xt h)
  | (rcases kS h with h|h
     ·exact akO h
     ·exact aho h)
  | (rcases kS h with h|h
     ·exact asB h
     ·exact tu h)
  | (rcases kS h with h|h
     ·exact akR h
     ·exact tu h)
  | (rcases kS h with h|h
     ·exact ao1 h
     ·rcases kS h with h|h
      ·exact ao0 h
      ·rcases kS h with h|h
       ·exact asy h
       ·exact tu h)
def TT.isDead:TT->Bool
 | .dead=>true
 | _=>false
theorem F6 {T:TT} (h:T.isDead=true):T = .dead:=by cases T<;>simp [TT.isDead] at h;rfl
def ab5 (P:aR) (sigs:FuncId->ah aO) (N:Nat) (fG:Bool) (o:bS):(Nat->TT)->aa Nat->ah Stp
 | g,[]=>match av9 P sigs N g fG o with
  | some S=>if S.kl .dead |>.isDead then some S.cap else none
  | none=>none
 | g,t::ts=>match qE N g t with
  | some S1=>match ab5 P sigs N fG o (rU g S1) ts with
   | some S2=>if (S2.up.map (·.1)).contains t then some (Stp.take t S1 S2) else none
   | none=>none
  | none=>match XH N g t with
   | some S1=>match ab5 P sigs N fG o (rU g S1) ts with
    | some S2=>some (Stp.take t S1 S2)
    | none=>none
   | none=>none
theorem amj {S1:Stp} {N:Nat} {g:Nat->TT} {t:Nat} (h1:qE N g t=some S1):S1.kl .dead = .dead:=by
 unfold qE at h1;split at h1;case h_2=>cases h1
 case h_1 ag cs0 r off S0 hT=>
 split at h1
 ·split at h1
  ·cases h1;rfl
  ·cases h1
 ·split at h1
  ·cases h1;rfl
  ·cases h1
 ·cases h1
theorem ab6 {P:aR} {sigs:FuncId->ah aO} {N:Nat} {fG:Bool} {o:bS}:∀{ts:aa Nat} {g:Nat->TT} {S:Stp},ab5 P sigs N fG o g ts=some S ->
  d_ P N o g S/\S.kl .dead = .dead/\∀s v,S.eff.rel P s v->v.length<=S.up.length/\0<v.length
 | [],g,S,h=>by
  simp only [ab5] at h
  split at h
  case h_2=>cases h
  case h_1 S' hS=>
  split at h
  case isFalse=>cases h
  case isTrue hd=>
  cases h
  exact ⟨aBi (azX hS),F6 hd,fun s v hv=>(Eff.cap_rel hv).2⟩
 | t::ts,g,S,h=>by
  simp only [ab5] at h
  split at h
  case h_2=>
   split at h
   case h_2=>cases h
   case h_1 S1 h1=>
   split at h
   case h_2=>cases h
   case h_1 S2 h2=>
   cases h
   obtain ⟨k1,k2,k3⟩:=ab6 h2
   have hk:S1.kl .dead = .dead:=by
    unfold XH at h1;split at h1
    ·split at h1
     ·cases h1;rfl
     ·cases h1
    ·cases h1
   refine ⟨aBh h1 k1 (fun s v hv=>(k3 s v hv).1),by simp only [Stp.take];rw [hk,k2],fun s v hv => ?_⟩
   obtain ⟨s1,_,hr⟩:=Eff.pre_rel hv
   have:=k3 _ _ hr
   simp only [Stp.take,bq]
   omega
  case h_1 S1 h1=>
  split at h
  case h_2=>cases h
  case h_1 S2 h2=>
  split at h
  case isFalse=>cases h
  case isTrue hc=>
  cases h
  obtain ⟨k1,k2,k3⟩:=ab6 h2
  refine ⟨azT h1 (amj h1) k2 k1 (by simpa using hc) (fun s v hv=>(k3 s v hv).1),by simp only [Stp.take];rw [amj h1,k2],fun s v hv => ?_⟩
  obtain ⟨s1,_,hr⟩:=Eff.pre_rel hv
  have:=k3 _ _ hr
  simp only [Stp.take,bq]
  omega
end Go.Fw
namespace Go.Fw
mutual
def CT.pure:CT->Bool
 | .d=>true
 | .sl (.own none) e=>CT.pures e
 | .sl _ _=>false
def CT.pures:aa CT->Bool
 | []=>true
 | c::cs=>c.pure&&CT.pures cs
end
mutual
theorem OH {P:aa Nat->Prop}:∀{c:CT},c.pure=true->c.allS P
 | .d,_=>by simp [CT.allS]
 | .sl (.own none) e,h=>by simp only [CT.pure] at h;simp only [CT.allS];exact Tp h
 | .sl (.own (some _)) e,h=>by simp [CT.pure] at h
 | .sl (.ro S) e,h=>by simp [CT.pure] at h
 | .sl .dead e,h=>by simp [CT.pure] at h
theorem Tp {P:aa Nat->Prop}:∀{cs:aa CT},CT.pures cs=true->CT.allSs P cs
 | [],_=>by simp [CT.allSs]
 | c::cs,h=>by
  simp only [CT.pures,aM] at h;simp only [CT.allSs];exact ⟨OH h.1,Tp h.2⟩
end
mutual
theorem adm:∀{c:CT},c.pure=true->c.live=true
 | .d,_=>by simp [CT.live]
 | .sl (.own none) e,h=>by simp only [CT.pure] at h;simp only [CT.live];exact Hz h
 | .sl (.own (some _)) e,h=>by simp [CT.pure] at h
 | .sl (.ro S) e,h=>by simp [CT.pure] at h
 | .sl .dead e,h=>by simp [CT.pure] at h
theorem Hz:∀{cs:aa CT},CT.pures cs=true->CT.lives cs=true
 | [],_=>by simp [CT.lives]
 | c::cs,h=>by
  simp only [CT.pures,aM] at h;simp only [CT.lives,aM];exact ⟨adm h.1,Hz h.2⟩
end
mutual
theorem av_ {M:aa Nat}:∀{c:CT},c.pure=true->c.men M=false
 | .d,_=>by simp [CT.men]
 | .sl (.own none) e,h=>by simp only [CT.pure] at h;simp only [CT.men];exact Dc h
 | .sl (.own (some _)) e,h=>by simp [CT.pure] at h
 | .sl (.ro S) e,h=>by simp [CT.pure] at h
 | .sl .dead e,h=>by simp [CT.pure] at h
theorem Dc {M:aa Nat}:∀{cs:aa CT},CT.pures cs=true->CT.mens M cs=false
 | [],_=>by simp [CT.mens]
 | c::cs,h=>by
  simp only [CT.pures,aM] at h;simp only [CT.mens,nA];exact ⟨av_ h.1,Dc h.2⟩
end
theorem OI:∀{cs:aa CT} {k:Nat} {c:CT},CT.pures cs=true->cs[k]?=some c->c.pure=true
 | [],_,_,_,h=>by simp at h
 | c0::cs,0,c,hp,h=>by
  simp only [CT.pures,aM] at hp;simp only [FR,aK] at h;rw [<-h];exact hp.1
 | c0::cs,k+1,c,hp,h=>by
  simp only [CT.pures,aM] at hp;simp only [FU] at h;exact OI hp.2 h
theorem akS {cs:aa CT} (h:CT.pures cs=true):h_ cs=true:=by
 unfold h_;rw [bW];intro c hc;obtain ⟨k,hk,rfl⟩:=CV hc;have:=OI h (aZ hk);generalize cs[k]=c at this ⊢;cases c with
 | d=>rfl
 | sl m e=>
  cases m with
  | own p=>cases p with
   | none=>rfl
   | some q=>simp [CT.pure] at this
  | ro S=>simp [CT.pure] at this
  | dead=>simp [CT.pure] at this
theorem Kt (S:aa Nat):∀{cs:aa CT} {k:Nat} {c:CT},(CT.roizes S cs)[k]?=some c->∃c0,cs[k]?=some c0/\c=c0.roize S
 | [],k,c,h=>by simp [CT.roizes] at h
 | c0::cs,0,c,h=>by
  simp only [CT.roizes,FR,aK] at h;exact ⟨c0,rfl,h.symm⟩
 | c0::cs,k+1,c,h=>by
  simp only [CT.roizes,FU] at h;obtain ⟨c1,h1,h2⟩:=Kt S h;exact ⟨c1,by simpa using h1,h2⟩
section
variable {ac:Nat->Nat->aj} {κ0 κ:aP} {w0 w:aA} {N:Nat} {tg:Nat->TT} {sv:Nat->AV} {tm:Nat->aj}
theorem azY (h:R ac κ0 w0 κ w N tg sv tm) {r:Nat} {cs cs':aa CT} (hr:tg r = .box cs) (sM:r<N) (h2:TR ac κ w tg sv tm r (.box cs')):R ac κ0 w0 κ w N (upd tg r (.box cs')) sv tm:=by
 have lF:∀u x,rg w (upd tg r (.box cs') u) x=rg w (tg u) x/\rb (upd tg r (.box cs') u) x=rb (tg u) x:=by
  intro u x;by_cases hu:u=r
  ·subst hu;rw [bI,hr];cases x with
   | pointer a=>cases a<;>exact ⟨rfl,rfl⟩
   | _=>exact ⟨rfl,rfl⟩
  ·rw [upd_ne _ _ _ hu];exact ⟨rfl,rfl⟩
 refine ⟨fun t => ?_,fun t ht => ?_,h.col,h.fr,h.fb,h.nle⟩
 ·by_cases ht:t=r
  ·subst ht;rw [bI];simpa only [TR] using h2
  ·rw [upd_ne _ _ _ ht];have:=h.tr t;cases hT:tg t with
   | alias ag cs r' sk off S=>rw [hT] at this;simp only [TR,(lF r' (tm r')).2,show rg w (upd tg r (.box cs') r') (tm r')=rg w (tg r') (tm r') from (lF r' (tm r')).1] at this ⊢;exact this
   | ptr r' sk off S=>rw [hT] at this;simp only [TR,(lF r' (tm r')).2,show rg w (upd tg r (.box cs') r') (tm r')=rg w (tg r') (tm r') from (lF r' (tm r')).1] at this ⊢;exact this
   | dead=>simp [TR]
   | val=>rw [hT] at this;simpa only [TR] using this
   | box=>rw [hT] at this;simpa only [TR] using this
   | tup=>rw [hT] at this;simpa only [TR] using this
 ·rw [upd_ne _ _ _ (by omega)];exact h.out t ht
end
theorem ahq {P:aR} {N:Nat} {g:Nat->TT} {o:bS} {S:Stp} {t:TypeId} {p y:iN} (h:zz P N g o=some S) (ho:o.op = .store t p y) :
  ∃X V,Xu g p=some X/\qg P g t 0 y=some V/\S.eff = .det (nX X V):=by
 unfold zz at h;split at h;case h_2=>cases h
 case h_1 t' p' y' hd nV=>
 rw [ho] at nV;cases nV;split at h;case h_2=>cases h
 case h_1 X V i hX hV hi=>
 refine ⟨X,V,hX,hV,?_⟩;split at h;case h_2=>cases h
 case h_1 cs pR=>
 split at h;case h_2=>cases h
 case h_1 e he=>
 split at h;case isFalse=>cases h
 case isTrue hc=>
 split at h
 ·split at h;case isFalse=>cases h
  case isTrue hm=>cases h;rfl
 ·split at h;case h_2=>cases h
  case h_1 cr ow IJ=>
  split at h;case isFalse=>cases h
  case isTrue hc2=>cases h;rfl
def ab7 (P:aR) (N:Nat) (g:Nat->TT) (o:bS) (x:Nat):ah Stp:=
 match g x with
 | .alias ag cs0 r [] 0 _=>match g r,qE N g x with
  | .box cr,some S1=>match zz P N (rU g S1) o,o.dst,o.op with
   | some S2,none,.store t (.tmp d) (.tmp y)=>match g d,P.info? t with
    | .box cd,some i=>
     if y=x/\x<N/\r<N/\d<N/\x≠r/\d≠r/\d≠x/\cs0.length=cr.length/\cr.length=i.size/\cd.length=cr.length/\CT.pures cr=true/\CT.mens [x,r] cd=false/\S2.up.length=2/\(S2.kl .dead).isDead=true then
      some ⟨[(d,.box cr),(x,.dead),(r,.box (CT.roizes [d] cr))],fun T=>(T.kill [x,r] [r]).killS d [d,x] [x],[x,r,d],(S2.cap.eff).pre (F4 x)⟩
     else none
    | _,_=>none
   | _,_,_=>none
  | _,_=>none
 | _=>none
theorem ao3 {κ:aP} {w:aA} {tgd:Nat} {r n x d:Nat} {B:Nat} {vs:aa aj} (kw:∀b,w.heap.size<=b->κ b=none) (CO:x≠r) (FE:d≠r) (Vl:d≠x) (hB:κ B=some (d,[])) :
  (∀b k q,k<n->κ b=some (r,k::q)->aW (aW κ (iW r 0 n x) none) (uA d 0 n [x]) none b=some (d,k::q)/\Same w (bO w B 0 vs) b) /\
  (∀b,κ b=some (r,[])->aW (aW κ (iW r 0 n x) none) (uA d 0 n [x]) none b=some (r,[])/\Same w (bO w B 0 vs) b):=by
 constructor
 ·intro b k q hk hb;refine ⟨?_,dJ (by rintro rfl;rw [hB] at hb;simp at hb)⟩;simp only [aW,hb,af,iW,if_true];rw [if_pos ⟨lN _,by omega⟩];simp only [af,uA,DY];rw [if_neg (ig Vl)];simp
 ·intro b hb;refine ⟨?_,dJ (by rintro rfl;rw [hB] at hb;cases hb;exact FE rfl)⟩;simp only [aW,hb,af,iW,if_true,uA];rw [if_neg (ig FE),if_neg (by simpa using ig CO)]
theorem ao4 {P:aR} {N:Nat} {g:Nat->TT} {o:bS} {x:Nat} {S:Stp} (h:ab7 P N g o x=some S) :
  d_ P N o g S/\S.kl .dead = .dead/\∀s v,S.eff.rel P s v->v.length<=S.up.length/\0<v.length:=by
 unfold ab7 at h;split at h;case h_2=>cases h
 case h_1 ag cs0 r S0 hgx=>
 split at h;case h_2=>cases h
 case h_1 cr S1 gY hS1=>
 split at h;case h_2=>cases h
 case h_1 S2 t d y hS2 MN ho=>
 split at h;case h_2=>cases h
 case h_1 cd i BU hi=>
 split at h;case isFalse=>cases h
 case isTrue hc=>
 obtain ⟨rfl,hxN,sM,hdN,CO,FE,Vl,hl0,hlc,hld,abJ,aDg,aGL,_⟩:=hc;cases h;refine ⟨?_,rfl,fun s v hv => ?_⟩
 rotate_left
 ·obtain ⟨s1,_,hr⟩:=Eff.pre_rel hv;have:=(Eff.cap_rel hr).2;rw [aGL] at this;simp only [bA,bB];omega
 intro ac κ0 κ w0 w tg sv s a v next Q hN hR hL hv bT;obtain ⟨s1,lH,ky⟩:=Eff.pre_rel hv;simp only [F4] at lH;split at lH;case h_2=>cases lH
 case h_1 as jL=>
 cases lH;have ky:=(Eff.cap_rel ky).1;obtain ⟨X,V,hX,hV,axv⟩:=ahq hS2 ho
 -- what is known behind the taking
 have aDh:S1=⟨[(y,.val ag ((cr.drop 0).take cs0.length)),(r,.box (iT 0 cs0.length cr))],fun T=>T.killS r [y,r] [r],[y],.det (gP y)⟩:=by
  unfold qE at hS1;rw [hgx] at hS1;simp only [gY] at hS1;split at hS1
  ·cases hS1;rfl
  ·cases hS1
 have aDi:(cr.drop 0).take cs0.length=cr:=by rw [FY,hl0,u7]
 rw [aDi] at aDh;subst aDh;have aGM:rU g ⟨[(y,.val ag cr),(r,.box (iT 0 cs0.length cr))],fun T=>T.killS r [y,r] [r],[y],.det (gP y)⟩ d = .box (cd.map (oH [r])):=by
  simp only [rU,aC];rw [if_neg Vl,if_neg FE,BU];rfl
 have aGN:rU g ⟨[(y,.val ag cr),(r,.box (iT 0 cs0.length cr))],fun T=>T.killS r [y,r] [r],[y],.det (gP y)⟩ y = .val ag cr:=by
  simp only [rU,aC,if_true]
 simp only [Xu,aGM,aK] at hX;subst hX;simp only [qg,aGN,aK] at hV;subst hV;rw [axv] at ky;simp only [Eff.rel,nX,iM,bI,b_,lJ] at ky;split at ky;case h_2=>cases ky
 case h_1 is ra as' Am BN akj=>
 obtain rfl:=Aq Am;obtain rfl:=Aq akj;simp only [b_,aK] at ky;subst ky;rw [upd_ne _ _ _ Vl] at BN
 -- the state
 obtain ⟨e1,e2⟩:=hL.at hgx (by simp);obtain ⟨r1,r2⟩:=hL.at gY (by simp);obtain ⟨d1,d2⟩:=hL.at BU (by simp);obtain ⟨is,hs⟩:=df jL;have hTx:=hR.tr y;rw [e1] at hTx;simp only [TR] at hTx;obtain ⟨asx,isx,vsx,gx,rax,rowx,x1,_,_,_,_,x5,_⟩:=hTx;have aGO:isx=[]:=by
  cases isx with
  | nil=>rfl
  | cons=>simp [gq] at x5
 subst aGO;rw [e2,hs] at x1;cases x1;have hTd:=hR.tr d;rw [d1] at hTd;simp only [TR] at hTd;obtain ⟨ad,B0,dd1,dd2,dd3,dd4,dd5,dd6,dd7⟩:=hTd;have aGP:ad=ra:=by
  rw [d2] at dd1;rw [dd1] at BN;simpa using BN
 subst aGP;have hTr:=hR.tr r;rw [r1] at hTr;simp only [TR] at hTr;obtain ⟨ar,br,rr1,rr2,rr3,rr4,rr5,rr6,rr7⟩:=hTr;have hR1:=ar8 hR hxN sM CO e1 (cs:=cr) (by rw [r1];rfl) (Dc abJ) (by omega) (by rw [e2,hs]) (tag':=.box (iT 0 cs0.length cr)) (by rw [r1]);rw [aDi] at hR1;have axw:=hR1.tr y;rw [bI] at axw;simp only [TR,bI] at axw;obtain ⟨ay,vs,y1,y2,y3,y4,y5⟩:=axw;cases y1;have aGQ:upd (upd (fun u=>(tg u).kill [y,r] [r]) r (.box (iT 0 cs0.length cr))) y (.val ag cr) d = .box cd:=by
  rw [upd_ne _ _ _ Vl,upd_ne _ _ _ FE,d1];simp only [TT.kill];rw [aoP];have vD:∀{cs:aa CT},CT.mens [y,r] cs=false->CT.mens [r] cs=false:=by
   have key:(∀c:CT,c.men [y,r]=false->c.men [r]=false):=by
    intro c;refine CT.rec (motive_1:=fun c=>c.men [y,r]=false->c.men [r]=false) (motive_2:=fun cs=>CT.mens [y,r] cs=false->CT.mens [r] cs=false) ?_ ?_ ?_ ?_ c
    ·intro _;rfl
    ·intro m e ih h;cases m with
     | own p=>simp only [CT.men] at h ⊢;exact ih h
     | dead=>simp only [CT.men] at h ⊢;exact ih h
     | ro S=>
      simp only [CT.men,nA,R4] at h ⊢;refine ⟨fun z hz => ?_,ih h.2⟩;have:=h.1 z hz;simp only [List.contains_cons,List.contains_nil,Bool.or_false,iQ,not_or] at this ⊢;exact this.2
    ·intro _;rfl
    ·intro c cs h1 h2 h;simp only [CT.mens,nA] at h ⊢;exact ⟨h1 h.1,h2 h.2⟩
   intro cs;induction cs with
   | nil=>intro _;rfl
   | cons c cs ih=>
    intro h;simp only [CT.mens,nA] at h ⊢;exact ⟨key c h.1,ih h.2⟩
  exact vD aDg
 have hmx:CT.mens [y] cd=false:=by
  have key:(∀c:CT,c.men [y,r]=false->c.men [y]=false):=by
   intro c;refine CT.rec (motive_1:=fun c=>c.men [y,r]=false->c.men [y]=false) (motive_2:=fun cs=>CT.mens [y,r] cs=false->CT.mens [y] cs=false) ?_ ?_ ?_ ?_ c
   ·intro _;rfl
   ·intro m e ih h;cases m with
    | own p=>simp only [CT.men] at h ⊢;exact ih h
    | dead=>simp only [CT.men] at h ⊢;exact ih h
    | ro S=>
     simp only [CT.men,nA,R4] at h ⊢;refine ⟨fun z hz => ?_,ih h.2⟩;have:=h.1 z hz;simp only [List.contains_cons,List.contains_nil,Bool.or_false,iQ,not_or] at this ⊢;exact this.1
   ·intro _;rfl
   ·intro c cs h1 h2 h;simp only [CT.mens,nA] at h ⊢;exact ⟨h1 h.1,h2 h.2⟩
  have:∀cs:aa CT,CT.mens [y,r] cs=false->CT.mens [y] cs=false:=by
   intro cs;induction cs with
   | nil=>intro _;rfl
   | cons c cs ih=>
    intro h;simp only [CT.mens,nA] at h ⊢;exact ⟨key c h.1,ih h.2⟩
  exact this cd aDg
 have aGR:upd sv y (.v as []) d = .v ad []:=by rw [upd_ne _ _ _ Vl,dd1]
 have hfy:FB∉[y]:=by
  have:=hR.nle;simp only [bY];omega
 obtain ⟨B,hB,hwr,BS⟩:=ag0 hR1 hdN aGQ aGR (srcs:=[y]) hfy (by simpa using Vl) (t:=y) (cs:=cr) (vs:=vs) (as:=as) ⟨y5,y3,.inl (by simp),Dc abJ⟩ (off:=0) (by omega) hmx (akS abJ);rw [dd2] at hB;cases hB;have axn:splice cd 0 cr=cr:=by simp [splice,hld]
 rw [axn] at BS;obtain ⟨F1,F2⟩:=ao3 (w:=w) (tgd:=0) (n:=cs0.length) (vs:=vs) hR.col CO FE Vl dd4;rw [<-hl0] at BS;have hbr:br≠B0:=by
  rintro rfl;rw [dd4] at rr4;cases rr4;exact FE rfl
 have azf:(CT.roizes [d] cr).length=cr.length:=dE _ _;have aGS:∀{T:TT},upd (fun u=>if u∈[y] then TT.dead else (upd (upd (fun u=>(tg u).kill [y,r] [r]) r (.box (iT 0 cs0.length cr))) y (.val ag cr) u).killS d (d::[y]) [y]) d T r = .box ((iT 0 cs0.length cr).map (oH [y])):=by
  intro T;rw [upd_ne _ _ _ (ig FE)];simp only [bY,ig CO,if_false];rw [upd_ne _ _ _ (ig CO),bI];rfl
 have hTR:TR ac (aW (aW κ (iW r 0 cs0.length y) none) (uA d 0 cs0.length [y]) none) (bO w B0 0 vs) (upd (fun u=>if u∈[y] then TT.dead else (upd (upd (fun u=>(tg u).kill [y,r] [r]) r (.box (iT 0 cs0.length cr))) y (.val ag cr) u).killS d (d::[y]) [y]) d (.box cr)) (upd (upd sv y (.v as [])) d (.v (splice ad 0 as) [])) (gm a) r (.box (CT.roizes [d] cr)):=by
  simp only [TR];refine ⟨ar,br,?_,rr2,?_,(F2 br rr4).1,?_,?_,?_⟩
  ·rw [upd_ne _ _ _ (ig FE),upd_ne _ _ _ (ig CO),rr1]
  ·rw [(kM vs w B0 0).1];exact rr3
  ·rw [azf];exact (dJ hbr).wrb rr5
  ·intro k j c e hk;obtain ⟨c0,_,h2⟩:=Kt [d] hk;cases c0<;>simp [CT.roize] at h2
  ·refine lY (by rw [azf];exact dH rr7) fun k c a' hk ha => ?_
   obtain ⟨c0,h1,rfl⟩:=Kt [d] hk;have N8:=(bn h1).1;have h0:=gZ rr7 h1 ha;have hp0:=OI abJ h1;have lD:cellD (bO w B0 0 vs) br (0+k)=cellD w br (0+k):=(dJ hbr).cD (lo:=0) (hi:=cr.length) (rr5.rdb) (by omega) (by omega);rw [lD];have h3:=IP (κ':=aW (aW κ (iW r 0 cs0.length y) none) (uA d 0 cs0.length [y]) none) (w':=bO w B0 0 vs) (f:=id) (P:=fun _=>False) (p':=(d,[0+k])) (fun S hS=>hS.elim) (OH hp0) (fun b q hb=>by
    have:=F1 b (0+k) q (by omega) (by simpa [Pl.at] using hb)
    simpa using this) h0
   rw [R8] at h3;exact aoD (adm hp0) (by simp) (by simp) (OH hp0) h3
 have hR3:=azY BS aGS sM hTR;refine Kj (w':=bO w B0 0 vs) ?_ (bT undef _ _ _ _ (by rw [MN,D8];exact hR3) (fun u => ?_) (fun u => ?_))
 ·unfold execOp;rw [ho];simp only;have hey:a.eval (.tmp y)=gm a y:=rfl;have hed:a.eval (.tmp d)=gm a d:=rfl;have jK:=vJ y2;have yS:=Vy y3 fun k hk=>by
   have:=Kl (Hz abJ) y5 k hk;simpa using this
  have:=Au (P:=P) (t:=t) (i:=i) (b:=B0) (o:=0) (v:=gm a y) (w:=w) hi (by rw [<-RY,jK,y3,hlc]) (by rw [jK];exact yS) (by rw [<-hlc,<-y3];exact hwr);rw [hey,hed,dd2,aF this,jK];rfl
 ·show _=aC _ [(d,TT.box cr),(y,TT.dead),(r,TT.box (CT.roizes [d] cr))] u;simp only [aC];by_cases yO:u=r
  ·subst yO;rw [bI,if_neg (ig FE),if_neg (ig CO),if_pos rfl]
  ·rw [upd_ne _ _ _ yO];by_cases FH:u=d
   ·subst FH;rw [bI,if_pos rfl]
   ·rw [upd_ne _ _ _ FH,if_neg FH];by_cases huy:u=y
    ·subst huy;simp
    ·rw [if_neg (by simpa using huy),if_neg huy,if_neg yO,upd_ne _ _ _ huy,upd_ne _ _ _ yO]
 ·show _=aC sv (([d,y,r]).zip [_]) u;simp only [J7,List.zip_nil_right,aC];by_cases FH:u=d
  ·subst FH;rw [bI,if_pos rfl]
  ·rw [upd_ne _ _ _ FH,if_neg FH];by_cases huy:u=y
   ·subst huy;rw [bI,e2,hs]
   ·rw [upd_ne _ _ _ huy]
end Go.Fw
namespace Go.Fw
section
variable {κ κ':aP} {w:aA} {t:Nat} {p0:aa Nat}
mutual
theorem amk (bz:∀S b,bu κ w S b->bu κ' w S b) (hk:∀b q,κ b=some (t,q)->p0 <+: q->κ' b=none):∀{c:CT} {p:Pl} {x:aj} {a:A},p.1=t->p0 <+: p.2->RC κ w c p x a->RC κ' w c.frz p x a
 | .d,_,_,.v _,_,_,h=>by simpa only [CT.frz,RC] using h
 | .d,_,_,.s _,_,_,h=>by simp [RC] at h
 | .sl (.own k) e,p,x,.s xs,hp,hm,h=>by
  simp only [CT.frz,RC,jS] at h ⊢;obtain ⟨ao,cap,h1,h2,h3⟩:=h;refine ⟨ao,cap,h1,h2,?_⟩;rcases h3 with ⟨rfl,rfl⟩|⟨b,o,g1,g2,g3,g4,g5⟩
  ·left;exact nz.1 (by omega)
  ·right;have hb:κ' b=none:=hk b p.2 (by rw [g3,<-hp]) hm;refine ⟨b,o,g1,⟨g2,fun r q hq=>by rw [hb] at hq;cases hq⟩,fun o' h1 BQ=>(g4 o' h1 ?_).1,VE bz hk hp hm g5⟩;have:=jg e.length h2;omega
 | .sl (.ro S) e,p,x,.s xs,hp,hm,h=>by
  simp only [CT.frz,RC,jS] at h ⊢;obtain ⟨ao,cap,h1,h2,h3⟩:=h;refine ⟨ao,cap,h1,h2,?_⟩;rcases h3 with h3|⟨b,o,g1,g2,g3,g4⟩
  ·exact .inl h3
  ·exact .inr ⟨b,o,g1,bz S b g2,g3,VE bz hk hp hm g4⟩
 | .sl .dead e,p,x,.s xs,_,_,h=>by simp [CT.frz,RC]
 | .sl .dead e,p,x,.v _,_,_,h=>by simp [CT.frz,RC]
 | .sl (.own k) e,p,x,.v _,_,_,h=>by simp [RC] at h
 | .sl (.ro S) e,p,x,.v _,_,_,h=>by simp [RC] at h
theorem ahr (bz:∀S b,bu κ w S b->bu κ' w S b) (hk:∀b q,κ b=some (t,q)->p0 <+: q->κ' b=none):∀{cs:aa CT} {p:Pl} {j:Nat} {get:Nat->aj} {as:aa A},p.1=t->p0 <+: p.2->aB κ w cs p j get as->aB κ' w (CT.frzs cs) p j get as
 | [],_,_,_,[],_,_,_=>by simp [CT.frzs,aB]
 | [],_,_,_,_::_,_,_,h=>by simp [aB] at h
 | c::cs,p,j,get,[],_,_,h=>by simp [aB] at h
 | c::cs,p,j,get,a::as,hp,hm,h=>by
  simp only [CT.frzs,aB] at h ⊢;exact ⟨amk bz hk (by simpa [Pl.at] using hp) (hm.trans (by simp [Pl.at])) h.1,ahr bz hk hp hm h.2⟩
theorem VE (bz:∀S b,bu κ w S b->bu κ' w S b) (hk:∀b q,κ b=some (t,q)->p0 <+: q->κ' b=none):∀{e:aa CT} {p:Pl} {j:Nat} {get:Nat->aj} {xs:aa (aa A)},p.1=t->p0 <+: p.2->dF κ w e p j get xs->dF κ' w (CT.frzs e) p j get xs
 | _,_,_,_,[],_,_,_=>by simp [dF]
 | e,p,j,get,x::xs,hp,hm,h=>by
  simp only [dF,jS] at h ⊢;exact ⟨ahr bz hk hp hm h.1,VE bz hk hp hm h.2⟩
end
end
def qV:Nat->aa CT->aa CT
 | 0,c::cs=>c.frz::cs
 | k+1,c::cs=>c::qV k cs
 | _,[]=>[]
theorem adn:∀(k:Nat) (cs:aa CT),(qV k cs).length=cs.length
 | 0,c::cs=>rfl
 | k+1,c::cs=>by simp [qV,adn k cs]
 | 0,[]=>rfl
 | _+1,[]=>rfl
def Eb (t k:Nat) (κ:aP):aP:=fun b=>
 match κ b with
 | some (r,m::q)=>if r=t/\m=k then none else some (r,m::q)
 | x=>x
theorem ado {t k:Nat} {κ:aP} {b:Nat} (h:κ b=none):Eb t k κ b=none:=by simp [Eb,h]
theorem adp {t k:Nat} {κ:aP} {b r:Nat} {q:aa Nat} (h:Eb t k κ b=some (r,q)):κ b=some (r,q):=by
 unfold Eb at h;split at h
 ·rename_i hk;split at h
  ·cases h
  ·rw [hk];exact h
 ·exact h
theorem Sq {t k:Nat} {κ:aP} {b r:Nat} {q:aa Nat} (h:κ b=some (r,q)) (hr:r≠t\/∀q',q≠k::q'):Eb t k κ b=some (r,q):=by
 unfold Eb;split
 ·rename_i r' m q' hk;rw [h] at hk;cases hk;rw [if_neg (by rintro ⟨h1,h2⟩;rcases hr with hr|hr<;>first|exact hr h1|exact hr q' (by rw [h2]))]
 ·exact h
mutual
theorem ahs {P:aa Nat->Prop} (h:∀S,P S):∀c:CT,c.allS P
 | .d=>by simp [CT.allS]
 | .sl (.ro S) e=>by simp only [CT.allS];exact ⟨h S,Bh h e⟩
 | .sl (.own _) e=>by simp only [CT.allS];exact Bh h e
 | .sl .dead e=>by simp only [CT.allS];exact Bh h e
theorem Bh {P:aa Nat->Prop} (h:∀S,P S):∀cs:aa CT,CT.allSs P cs
 | []=>by simp [CT.allSs]
 | c::cs=>by simp only [CT.allSs];exact ⟨ahs h c,Bh h cs⟩
end
theorem ab8 {κ:aP} {w:aA} {t k0:Nat} (S:aa Nat) (b:Nat) (hb:bu κ w S b):bu (Eb t k0 κ) w S b:=⟨hb.1,fun r q hq=>hb.2 r q (adp hq)⟩
theorem azZ {κ:aP} {t k0:Nat} (b:Nat) (q:aa Nat) (hb:κ b=some (t,q)) (hq:[k0] <+: q):Eb t k0 κ b=none:=by
 obtain ⟨q',rfl⟩:=hq;simp [Eb,hb]
theorem adq {κ:aP} {w:aA} {t k0:Nat}:∀{cs:aa CT} {j k:Nat} {get:Nat->aj} {as:aa A},k0=j+k->aB κ w cs (t,[]) j get as->aB (Eb t k0 κ) w (qV k cs) (t,[]) j get as
 | [],j,k,get,[],_,_=>by cases k<;>simp [aB,qV]
 | [],j,k,get,_::_,_,h=>by simp [aB] at h
 | c::cs,j,k,get,[],_,h=>by simp [aB] at h
 | c::cs,j,0,get,a::as,hj,h=>by
  simp only [qV,aB] at h ⊢;refine ⟨amk ab8 azZ rfl (by simp [Pl.at,hj]) h.1,?_⟩;refine Vr (Bh (fun S b hb=>⟨ab8 S b hb,Same.refl w b⟩) cs) (fun i hi b q hb => ?_) (fun _ _=>rfl) h.2;refine ⟨?_,Same.refl w b⟩;rw [hb];exact Sq hb (.inr fun q' hq=>by simp only [dN,J_] at hq;omega)
 | c::cs,j,k+1,get,a::as,hj,h=>by
  simp only [qV,aB] at h ⊢;refine ⟨?_,adq (by omega) h.2⟩;refine wu (ahs (fun S b hb=>⟨ab8 S b hb,Same.refl w b⟩) c) (fun b q hb => ?_) h.1;refine ⟨?_,Same.refl w b⟩;rw [hb];exact Sq hb (.inr fun q' hq=>by simp only [Pl.at,dN,nC,J_] at hq;omega)
def Sr (N:Nat) (g:Nat->TT) (r k:Nat):ah Stp:=
 match g r with
 | .box cs=>if r<N/\h_ (qV k cs)=true then some ⟨[(r,.box (qV k cs))],fun T=>T.kill [r] [],[r],.det fun _=>none⟩ else none
 | _=>none
theorem aBj {ac:Nat->Nat->aj} {κ0 κ:aP} {w0 w:aA} {N:Nat} {tg:Nat->TT} {sv:Nat->AV} {tm:Nat->aj} (h:R ac κ0 w0 κ w N tg sv tm) {r k:Nat} {cs:aa CT} (ht:tg r = .box cs) (lV:r<N) (jy:h_ (qV k cs)=true) :
  R ac κ0 w0 (Eb r k κ) w N (aC (fun u=>(tg u).kill [r] []) [(r,.box (qV k cs))]) sv tm:=by
 refine uy (mods:=[r]) (M:=[]) h ?_ (fun S hS b hb=>⟨⟨hb.1,fun r q hq=>hb.2 r q (adp hq)⟩,Same.refl w b⟩) (fun b r' q hr hb => ?_) (fun r' hr => ?_) (fun _ _=>rfl) (fun _ _=>rfl) (fun u hu => ?_) (fun u hu => ?_) (fun b hb=>ado (h.col b hb)) ?_
 ·have:=h.nle;simp only [bY];omega
 ·simp only [bY] at hr;exact ⟨by rw [hb];exact Sq hb (.inl hr),Same.refl w b⟩
 ·simp only [bY] at hr;left;simp [aC,hr]
 ·simp only [bY] at hu;subst hu;have h1:=h.tr u;rw [ht] at h1;simp only [TR] at h1;obtain ⟨as,b,g1,g2,g3,g4,g5,g6,g7⟩:=h1;simp only [aC,if_true,TR];exact ⟨as,b,g1,g2,g3,Sq g4 (.inr fun q' hq=>by cases hq),by rw [adn];exact g5,gK jy,adq (by omega) g7⟩
 ·have:u≠r:=by omega
  simp only [aC,if_neg this,h.out u hu];rfl
 ·refine ⟨h.fr.size,fun b hb h0 => ?_,h.fr.os,h.fr.out,h.fr.tape⟩;have:=h.fr.kept b hb h0;exact ⟨ado this.1,this.2⟩
def Stp.frzB (r:Nat) (S1 S2:Stp):Stp:=⟨S2.up++S1.up.map (fun p=>(p.1,S2.kl p.2)),fun T=>S2.kl (S1.kl T),r::S2.rd,S2.eff⟩
theorem az0 {P:aR} {N:Nat} {g:Nat->TT} {o:bS} {r k:Nat} {S1 S2:Stp} (h1:Sr N g r k=some S1) (h2:d_ P N o (rU g S1) S2) (hv:∀s v,S2.eff.rel P s v->v.length<=S2.up.length) :
  d_ P N o g (Stp.frzB r S1 S2):=by
 intro ac κ0 κ w0 w tg sv s a v next Q hN hR hL ky bT;simp only [Stp.frzB] at ky;unfold Sr at h1;split at h1;case h_2=>cases h1
 case h_1 cs hT=>
 split at h1;case isFalse=>cases h1
 case isTrue hc=>
 cases h1;obtain ⟨e1,e2⟩:=hL.at hT (by simp);have jA:=aBj (k:=k) hR e1 hc.1 hc.2;have hL':Le (rU g ⟨[(r,.box (qV k cs))],fun T=>T.kill [r] [],[r],.det fun _=>none⟩) s (aC (fun u=>(tg u).kill [r] []) [(r,.box (qV k cs))]) sv:=by
  intro u;simp only [rU,aC];by_cases FJ:u=r
  ·right;subst FJ;exact ⟨by simp,e2.symm⟩
  ·simp only [if_neg FJ];rcases hL u with h3|⟨h3,h4⟩
   ·left;rw [h3];rfl
   ·right;exact ⟨by rw [h3],h4⟩
 refine h2 ac κ0 _ w0 w _ sv s a v next Q hN jA hL' ky fun x w' κ'' tg'' sv'' ako abH abI => ?_
 have CL:=hv _ _ ky;refine bT x w' κ'' tg'' sv'' ako (fun u => ?_) (fun u => ?_)
 ·rw [abH u];simp only [Stp.frzB];rw [Ea];by_cases hu:u∈S2.up.map (·.1)
  ·exact bR.upds_in hu
  ·rw [bR.upds_out hu,bR.upds_out hu];simp only [aC,bf,bQ];split<;>rfl
 ·rw [abI u];simp only [Stp.frzB];have hz:((S2.up++[(r,TT.box (qV k cs))].map fun p=>(p.1,S2.kl p.2)).map (·.1)).zip v=(S2.up.map (·.1)).zip v:=by
   rw [wV];exact I5 (by simpa using CL)
  rw [hz]
def aht (P:aR) (sigs:FuncId->ah aO) (N:Nat) (fG:Bool) (o:bS):aa Nat->(Nat->TT)->aa Nat->ah Stp
 | [],g,tk=>ab5 P sigs N fG o g tk
 | x::xs,g,tk=>match Nat.ble 4000000000 x with
  | true=>match xs,tk with
   | [],[y]=>ab7 P N g o y
   | _,_=>none
  | false=>match Sr N g (x % 1000000000 / 1000) (x % 1000) with
   | some S1=>match aht P sigs N fG o xs (rU g S1) tk with
    | some S2=>some (Stp.frzB (x % 1000000000 / 1000) S1 S2)
    | none=>none
   | none=>none
theorem aml {P:aR} {sigs:FuncId->ah aO} {N:Nat} {fG:Bool} {o:bS}:∀{xs:aa Nat} {g:Nat->TT} {tk:aa Nat} {S:Stp},aht P sigs N fG o xs g tk=some S ->
  d_ P N o g S/\S.kl .dead = .dead/\∀s v,S.eff.rel P s v->v.length<=S.up.length/\0<v.length
 | [],g,tk,S,h=>ab6 (by simpa only [aht] using h)
 | x::xs,g,tk,S,h=>by
  simp only [aht] at h
  split at h
  case h_1=>
   split at h
   ·exact ao4 h
   ·cases h
  case h_2=>
  split at h
  case h_2=>cases h
  case h_1 S1 h1=>
  split at h
  case h_2=>cases h
  case h_1 S2 h2=>
  cases h
  obtain ⟨k1,k2,k3⟩:=aml h2
  have hk:S1.kl .dead = .dead:=by
   unfold Sr at h1;split at h1
   ·split at h1
    ·cases h1;rfl
    ·cases h1
   ·cases h1
  refine ⟨az0 h1 k1 (fun s v hv=>(k3 s v hv).1),by simp only [Stp.frzB];rw [hk,k2],fun s v hv => ?_⟩
  have:=k3 s v hv
  simp only [Stp.frzB,bq]
  omega
end Go.Fw
namespace Go.Fw
structure OpR where
 S:Bool->Stp
 cb:(Nat->AV)->Option Bool
 up:List (Nat × TT)
 d:Option Nat
 gd:Option (Nat × Bool)
 g:Bool->Nat->TT
 WZ:List Nat
 pk:Option Nat
def rV (rs:aa OpR) (i:Nat):aa (Nat × TT):=match rs[i]? with
 | some o=>o.up
 | none=>[]
def Bi (rs:aa OpR) (i:Nat):ah Nat:=match rs[i]? with
 | some o=>o.d
 | none=>none
def bM (rs:aa OpR) (bef:Nat->Nat->Bool) (D0:Nat->TT) (s0:Nat->AV) (np:Nat->Bool) (px:Nat->aj) (wl:aa Bool) (vl:aa (aa AV)):bR:=
 ⟨rs.length,rV rs,Bi rs,bef,D0,s0,fun i=>wl.getD i false,fun i=>vl.getD i [],np,px⟩
def kT (s:Nat->AV) (t:Nat):ah Bool:=
 match s t with
 | .v [.v (.bool c)] _=>some c
 | _=>none
def nM (rs:aa OpR) (wl:aa Bool) (s:Nat->AV) (o:OpR):Bool:=
 match o.gd with
 | none=>true
 | some (j,b)=>wl.getD j false&&(match Bi rs j with
  | some t=>(match kT s t with
   | some c=>c == b
   | none=>false)
  | none=>false)
def xq (P:aR) (rs:aa OpR):aa OpR->aa Bool->(Nat->AV)->((Nat->AV)->Prop)->Prop
 | [],_,s,K=>K s
 | o::os,wl,s,K=>if nM rs wl s o then ∃b v,o.cb s=some b/\(o.S b).eff.rel P s v/\xq P rs os (wl++[true]) (aC s ((o.up.map (·.1)).zip v)) K
  else xq P rs os (wl++[false]) s K
def allT:Nat->Bool:=fun _=>true
theorem ahu {r r':bR} (h0:r.s0=r'.s0) (L:Nat->Bool):∀k,(∀j,j<k->r.up j=r'.up j/\r.wn j=r'.wn j/\(r.wn j=true->r.vv j=r'.vv j))->r.sL L k=r'.sL L k:=by
 intro k;induction k with
 | zero=>intro _;exact h0
 | succ k ih=>
  intro h;have ih:=ih fun j hj=>h j (by omega)
  obtain ⟨h1,h2,h3⟩:=h k (by omega);simp only [bR.sL,bR.sS,ih,h1,h2];cases hw:r'.wn k with
  | false=>rfl
  | true=>rw [h3 (by rw [h2,hw])]
section
variable {P:aR} {rs:aa OpR} {bef:Nat->Nat->Bool} {D0:Nat->TT} {s0:Nat->AV} {np:Nat->Bool} {px:Nat->aj} {K:(Nat->AV)->Prop}
theorem uE {α:Type} {l m:aa α} {j:Nat} {x:α} (h:j<l.length):(l++m).getD j x=l.getD j x:=by
 simp only [dA,rH h]
theorem amm (BU:∀(i:Nat) (o:OpR) (j:Nat) (b:Bool),rs[i]?=some o->o.gd=some (j,b)->j<i):∀{os pre:aa OpR} {wl:aa Bool} {vl:aa (aa AV)},rs=pre++os->wl.length=pre.length->vl.length=pre.length ->
  xq P rs os wl ((bM rs bef D0 s0 np px wl vl).sL allT pre.length) K ->
  ∃wl' vl',(∀j,j<pre.length->wl'.getD j false=wl.getD j false/\vl'.getD j []=vl.getD j [])/\K ((bM rs bef D0 s0 np px wl' vl').sL allT rs.length) /\
   ∀i o,pre.length<=i->rs[i]?=some o->wl'.getD i false=nM rs wl' ((bM rs bef D0 s0 np px wl' vl').sL allT i) o /\
    (wl'.getD i false=true->∃b,o.cb ((bM rs bef D0 s0 np px wl' vl').sL allT i)=some b/\(o.S b).eff.rel P ((bM rs bef D0 s0 np px wl' vl').sL allT i) (vl'.getD i []))
 | [],pre,wl,vl,lG,h1,h2,h=>by
  simp only [kY] at lG
  refine ⟨wl,vl,fun j _=>⟨rfl,rfl⟩,?_,fun i o hi ho => ?_⟩
  ·simp only [xq] at h
   rw [show rs.length=pre.length from by rw [lG]];exact h
  ·have:=(bn ho).1
   rw [lG] at this;omega
 | o::os,pre,wl,vl,lG,h1,h2,h=>by
  have ho:rs[pre.length]?=some o:=by rw [lG];simp
  have nW:rV rs pre.length=o.up:=by unfold rV;rw [ho]
  -- one more
  have step:∀(x:Bool) (v:aa AV),xq P rs os (wl++[x]) ((bM rs bef D0 s0 np px (wl++[x]) (vl++[v])).sL allT (pre++[o]).length) K ->
    (x=nM rs wl ((bM rs bef D0 s0 np px wl vl).sL allT pre.length) o)->(x=true->∃b,o.cb ((bM rs bef D0 s0 np px wl vl).sL allT pre.length)=some b/\(o.S b).eff.rel P ((bM rs bef D0 s0 np px wl vl).sL allT pre.length) v) ->
    ∃wl' vl',(∀j,j<pre.length->wl'.getD j false=wl.getD j false/\vl'.getD j []=vl.getD j [])/\K ((bM rs bef D0 s0 np px wl' vl').sL allT rs.length) /\
     ∀i o,pre.length<=i->rs[i]?=some o->wl'.getD i false=nM rs wl' ((bM rs bef D0 s0 np px wl' vl').sL allT i) o /\
      (wl'.getD i false=true->∃b,o.cb ((bM rs bef D0 s0 np px wl' vl').sL allT i)=some b/\(o.S b).eff.rel P ((bM rs bef D0 s0 np px wl' vl').sL allT i) (vl'.getD i [])):=by
   intro x v hW hx hv;obtain ⟨wl',vl',k1,k2,k3⟩:=amm BU (os:=os) (pre:=pre++[o]) (wl:=wl++[x]) (vl:=vl++[v]) (by rw [lG];simp) (by simp [h1]) (by simp [h2]) hW;have fe:∀j,j<pre.length->wl'.getD j false=wl.getD j false/\vl'.getD j []=vl.getD j []:=fun j hj=>by
    obtain ⟨g1,g2⟩:=k1 j (by simp;omega);rw [uE (by omega)] at g1 g2;exact ⟨g1,g2⟩
   refine ⟨wl',vl',fe,k2,fun i o' hi nV => ?_⟩;by_cases hii:i=pre.length
   ·subst hii;rw [ho] at nV;cases nV;have hs:(bM rs bef D0 s0 np px wl' vl').sL allT pre.length=(bM rs bef D0 s0 np px wl vl).sL allT pre.length:=ahu (r:=bM rs bef D0 s0 np px wl' vl') (r':=bM rs bef D0 s0 np px wl vl) rfl allT pre.length fun j hj=>⟨rfl,(fe j hj).1,fun _=>(fe j hj).2⟩
    obtain ⟨g1,g2⟩:=k1 pre.length (by simp);have e1:(wl++[x]).getD pre.length false=x:=by rw [<-h1];simp [dA]
    have e2:(vl++[v]).getD pre.length []=v:=by rw [<-h2];simp [dA]
    rw [e1] at g1;rw [e2] at g2;rw [hs,g1,g2];refine ⟨?_,hv⟩;rw [hx];unfold nM;cases hg:o.gd with
    | none=>rfl
    | some p=>
     obtain ⟨j,b⟩:=p;have:=BU _ _ _ _ ho hg;simp only;rw [(fe j this).1]
   ·exact k3 i o' (by simp;omega) nV
  simp only [xq] at h
  split at h
  ·rename_i hw
   obtain ⟨b,v,hb,ky,hW⟩:=h
   refine step true v ?_ hw.symm fun _=>⟨b,hb,ky⟩
   have:(bM rs bef D0 s0 np px (wl++[true]) (vl++[v])).sL allT (pre++[o]).length=aC ((bM rs bef D0 s0 np px wl vl).sL allT pre.length) ((o.up.map (·.1)).zip v):=by
    rw [bq,J5]
    simp only [bR.sL,allT,if_true]
    have hs:(bM rs bef D0 s0 np px (wl++[true]) (vl++[v])).sL allT pre.length=(bM rs bef D0 s0 np px wl vl).sL allT pre.length:=ahu (r:=bM rs bef D0 s0 np px (wl++[true]) (vl++[v])) (r':=bM rs bef D0 s0 np px wl vl) rfl _ pre.length fun j hj=>⟨rfl,uE (by omega),fun _=>uE (by omega)⟩
    rw [hs]
    unfold bR.sS
    have e1:(wl++[true]).getD pre.length false=true:=by rw [<-h1];simp [dA]
    have e2:(vl++[v]).getD pre.length []=v:=by rw [<-h2];simp [dA]
    simp only [bM,e1,e2,nW,if_true]
   rw [this];exact hW
  ·rename_i hw
   refine step false [] ?_ (by simpa using hw) fun hx=>by cases hx
   have:(bM rs bef D0 s0 np px (wl++[false]) (vl++[[]])).sL allT (pre++[o]).length=(bM rs bef D0 s0 np px wl vl).sL allT pre.length:=by
    rw [bq,J5]
    simp only [bR.sL,allT,if_true]
    have hs:(bM rs bef D0 s0 np px (wl++[false]) (vl++[[]])).sL allT pre.length=(bM rs bef D0 s0 np px wl vl).sL allT pre.length:=ahu (r:=bM rs bef D0 s0 np px (wl++[false]) (vl++[[]])) (r':=bM rs bef D0 s0 np px wl vl) rfl _ pre.length fun j hj=>⟨rfl,uE (by omega),fun _=>uE (by omega)⟩
    rw [hs]
    unfold bR.sS
    have e1:(wl++[false]).getD pre.length false=false:=by rw [<-h1];simp [dA]
    simp only [bM,e1,eQ,if_false]
   rw [this];exact h
end
end Go.Fw
namespace Go.Fw
def agy (a b:Sk):Bool:=decide (a=b)
def TT.beq:TT->TT->Bool
 | .dead,.dead=>true
 | .val a c,.val a' c'=>(a == a')&&CT.beqs c c'
 | .alias a c r sk off S,.alias a' c' r' sk' off' S'=>(a == a')&&CT.beqs c c'&&(r == r')&&agy sk sk'&&(off == off')&&decide (S=S')
 | .box c,.box c'=>CT.beqs c c'
 | .ptr r sk off S,.ptr r' sk' off' S'=>(r == r')&&agy sk sk'&&(off == off')&&decide (S=S')
 | .tup ws c,.tup ws' c'=>decide (ws=ws')&&CT.beqs c c'
 | _,_=>false
theorem TT.beq_eq:∀{T T':TT},T.beq T'=true->T=T'
 | .dead,T',h=>by cases T'<;>simp [TT.beq] at h;rfl
 | .val a c,T',h=>by
  cases T'<;>simp [TT.beq] at h;rw [h.1,CT.beqs_eq h.2]
 | .alias a c r sk off S,T',h=>by
  cases T'<;>simp [TT.beq,agy] at h;obtain ⟨⟨⟨⟨⟨h1,h2⟩,h3⟩,h4⟩,h5⟩,h6⟩:=h;rw [h1,CT.beqs_eq h2,h3,h4,h5,h6]
 | .box c,T',h=>by
  cases T'<;>simp [TT.beq] at h;rw [CT.beqs_eq h]
 | .ptr r sk off S,T',h=>by
  cases T'<;>simp [TT.beq,agy] at h;obtain ⟨⟨⟨h3,h4⟩,h5⟩,h6⟩:=h;rw [h3,h4,h5,h6]
 | .tup ws c,T',h=>by
  cases T'<;>simp [TT.beq] at h;rw [h.1,CT.beqs_eq h.2]
def okg (ch:aa (Nat × Bool)):ah (Nat × Bool)->Bool
 | none=>true
 | some p=>ch.contains p
def I9 (D0:Nat->TT) (ch:aa (Nat × Bool)):aa OpR->Nat->TT
 | [],t=>D0 t
 | o::rest,t=>if (o.up.map (·.1)).contains t then (if okg ch o.gd then aC (fun _=>.dead) o.up t else if o.d != some t&&(aC (fun _=>.dead) o.up t).beq (I9 D0 ch rest t) then I9 D0 ch rest t else .dead) else if o.d == some t then .dead else I9 D0 ch rest t
def chR (rs:aa OpR):Nat->ah (Nat × Bool)->aa (Nat × Bool)
 | 0,_=>[]
 | _+1,none=>[]
 | f+1,some (j,b)=>(j,b)::(match rs[rs.length-1-j]? with
  | some o=>chR rs f o.gd
  | none=>[])
section
variable {D0:Nat->TT} {s0:Nat->AV} {np:Nat->Bool} {px:Nat->aj} {bef:Nat->Nat->Bool} {wl:aa Bool} {vl:aa (aa AV)} {rs:aa OpR}
theorem adr {f:Nat->TT} {l:aa (Nat × TT)} {t:Nat} (h:t∈l.map (·.1)):aC f l t=aC (fun _=>.dead) l t:=bR.upds_in h
theorem ahv {ch:aa (Nat × Bool)} {L:Nat->Bool}:∀{pre:aa OpR} {post:aa OpR},rs=pre.reverse++post->(∀j,j<pre.length->L j=true) ->
  (∀j o,j<pre.length->rs[j]?=some o->okg ch o.gd=true->wl.getD j false=true)->∀t,I9 D0 ch pre t = .dead\/I9 D0 ch pre t=(bM rs bef D0 s0 np px wl vl).dL L pre.length t
 | [],post,lG,hL,hw,t=>by right;simp [I9,bR.dL,bM]
 | o::pre,post,lG,hL,hw,t=>by
  have ho:rs[pre.length]?=some o:=by
   rw [lG];simp
  have nW:rV rs pre.length=o.up:=by unfold rV;rw [ho]
  have hd:Bi rs pre.length=o.d:=by unfold Bi;rw [ho]
  have ih:=ahv (pre:=pre) (post:=o::post) (ch:=ch) (L:=L) (by rw [lG];simp) (fun j hj=>hL j (by simp;omega)) (fun j o' hj=>hw j o' (by simp;omega)) t
  simp only [I9,bA,bR.dL]
  rw [hL pre.length (by simp),if_pos rfl]
  have hds:∀f,(bM rs bef D0 s0 np px wl vl).dS pre.length f t=if wl.getD pre.length false then aC f o.up t else if o.d=some t then .dead else f t:=by
   intro f
   unfold bR.dS
   rw [show (bM rs bef D0 s0 np px wl vl).up pre.length=o.up from nW,show (bM rs bef D0 s0 np px wl vl).dst pre.length=o.d from hd]
   by_cases hwl:wl.getD pre.length false=true
   ·rw [if_pos hwl,if_pos (show (bM rs bef D0 s0 np px wl vl).wn pre.length=true from hwl)]
   ·rw [if_neg hwl,if_neg (show ¬(bM rs bef D0 s0 np px wl vl).wn pre.length=true from hwl)]
  rw [hds]
  by_cases hm:(o.up.map (·.1)).contains t=true
  ·rw [if_pos hm]
   by_cases hg:okg ch o.gd=true
   ·rw [if_pos hg,hw pre.length o (by simp) ho hg,if_pos rfl]
    right
    exact (adr (by simpa using hm)).symm
   ·rw [if_neg hg]
    split
    ·rename_i hc
     simp only [aM,bne_iff_ne,ne_eq] at hc
     have hbe:=TT.beq_eq hc.2
     cases hwl:wl.getD pre.length false with
     | true=>
      right
      rw [if_pos rfl,adr (by simpa using hm),hbe]
     | false=>
      rw [if_neg (by simp),if_neg hc.1]
      exact ih
    ·exact .inl rfl
  ·rw [if_neg hm]
   by_cases zi:o.d=some t
   ·rw [if_pos (by simpa using zi)];exact .inl rfl
   ·rw [if_neg (by simpa using zi)]
    have Ob:t∉o.up.map (·.1):=by simpa using hm
    rw [bR.upds_out Ob,if_neg zi]
    split
    ·exact ih
    ·exact ih
end
def idxOf (c:Nat):aa OpR->ah Nat
 | []=>none
 | o::rest=>if o.d == some c then some rest.length else idxOf c rest
def Ku (d c:Nat) (X Y:DX) (b:Bool):Stp:=
 Stp.set d (.val false [.d]) [] (.det fun s=>match kT s c with
  | some v=>if v=b then (match (if b then X else Y).get s with
   | some v=>some [.v [.v v] []]
   | none=>none) else none
  | none=>none)
def alv (D0l:aa TT):aa (TT × Nat):=D0l.zipIdx.filter fun p=>!p.1.isDead
def axP (D0l:aa TT) (rs:aa OpR) (dom:aa Nat) (kl:TT->TT) (beq:TT->TT->Bool):aa Nat:=
 ((alv D0l).filterMap fun p=>if dom.contains p.2 || beq (kl p.1) p.1 then none else some p.2) ++
 rs.flatMap fun o=>o.up.filterMap fun p=>if dom.contains p.1 || beq (kl p.2) p.2 then none else some p.1
structure Hint where
 al:Bool
 tk:List Nat
 hd:List Nat
def Ec (P:aR) (sigs:FuncId->ah aO) (N:Nat) (D0l:aa TT) (rs:aa OpR) (WZ:aa Nat) (h:Hint) (o:bS):ah OpR:=
 let ch:=chR rs (rs.length+1) o.guard
 let g:=fun t=>if WZ.contains t then .dead else I9 (gt D0l) ch rs t
 match o.op,o.dst with
 | .pick (.tmp c) x y,some d=>
  let chb:=fun b:Bool=>match idxOf c rs with
   | some j=>(match rs[rs.length-1-j]? with
    | some oj=>if okg ch oj.gd then (j,b)::ch else ch
    | none=>ch)
   | none=>ch
  let gb:=fun b:Bool=>fun t=>if WZ.contains t then TT.dead else I9 (gt D0l) (chb b) rs t
  match nL (gb true) x,nL (gb false) y,nL (gb true) (.tmp c),nL (gb false) (.tmp c) with
  | some X,some Y,some _,some _=>if d<N then
    let S:=Ku d c X Y
    let ks:=axP D0l rs [d] (S true).kl TT.beq
    some ⟨S,fun s=>kT s c,(S true).up++ks.map (fun t=>(t,.dead)),some d,o.guard,gb,WZ,some c⟩ else none
  | _,_,_,_=>none
 | _,_=>match aht P sigs N h.al o (h.hd.filter fun x=>Nat.ble 3000000000 x) g h.tk with
  | some S=>
   let ks:=axP D0l rs (S.up.map (·.1)) S.kl TT.beq
   some ⟨fun _=>S,fun _=>some true,S.up++ks.map (fun t=>(t,.dead)),o.dst,o.guard,fun _=>g,WZ,none⟩
  | none=>none
end Go.Fw
namespace Go.Fw
section
variable {α:Type}
def fN (n:Nat) (k:Nat->α):α:=match n with
 | 0=>k 0
 | m+1=>k (m+1)
theorem xu (n:Nat) (k:Nat->α):fN n k=k n:=by cases n<;>rfl
def fB (b:Bool) (k:Bool->α):α:=match b with
 | true=>k true
 | false=>k false
theorem ao5 (b:Bool) (k:Bool->α):fB b k=k b:=by cases b<;>rfl
def fL {β:Type} (f:β->(β->α)->α):aa β->(aa β->α)->α
 | [],k=>k []
 | x::l,k=>f x fun x=>fL f l fun l=>k (x::l)
theorem De {β:Type} {f:β->(β->α)->α} (hf:∀x k,f x k=k x):∀(l:aa β) (k:aa β->α),fL f l k=k l
 | [],k=>rfl
 | x::l,k=>by rw [fL,hf,De hf l]
def fP (p:Nat × Nat) (k:Nat × Nat->α):α:=fN p.1 fun a=>fN p.2 fun b=>k (a,b)
theorem ao6 (p:Nat × Nat) (k:Nat × Nat->α):fP p k=k p:=by unfold fP;rw [xu,xu]
def fW (p:Bool × Nat) (k:Bool × Nat->α):α:=fB p.1 fun a=>fN p.2 fun b=>k (a,b)
theorem aDZ (p:Bool × Nat) (k:Bool × Nat->α):fW p k=k p:=by unfold fW;rw [ao5,xu]
def fMd:Md->(Md->α)->α
 | .own none,k=>k (.own none)
 | .own (some p),k=>fP p fun p=>k (.own (some p))
 | .ro S,k=>fL fN S fun S=>k (.ro S)
 | .dead,k=>k .dead
theorem aBk (m:Md) (k:Md->α):fMd m k=k m:=by
 cases m with
 | own p=>cases p with
  | none=>rfl
  | some p=>rw [fMd,ao6]
 | ro S=>rw [fMd,De xu]
 | dead=>rfl
mutual
def fC:CT->(CT->α)->α
 | .d,k=>k .d
 | .sl m e,k=>fMd m fun m=>fCs e fun e=>k (.sl m e)
def fCs:aa CT->(aa CT->α)->α
 | [],k=>k []
 | c::cs,k=>fC c fun c=>fCs cs fun cs=>k (c::cs)
end
mutual
theorem aD0:∀(c:CT) (k:CT->α),fC c k=k c
 | .d,k=>rfl
 | .sl m e,k=>by rw [fC,aBk,I_ e]
theorem I_:∀(c:aa CT) (k:aa CT->α),fCs c k=k c
 | [],k=>rfl
 | c::cs,k=>by rw [fCs,aD0 c,I_ cs]
end
def fT:TT->(TT->α)->α
 | .dead,k=>k .dead
 | .val ag cs,k=>fB ag fun ag=>fCs cs fun cs=>k (.val ag cs)
 | .alias ag cs r sk off S,k=>fB ag fun ag=>fCs cs fun cs=>fN r fun r=>fL fP sk fun sk=>fN off fun off=>fL fN S fun S=>k (.alias ag cs r sk off S)
 | .box cs,k=>fCs cs fun cs=>k (.box cs)
 | .ptr r sk off S,k=>fN r fun r=>fL fP sk fun sk=>fN off fun off=>fL fN S fun S=>k (.ptr r sk off S)
 | .tup ws cs,k=>fL fW ws fun ws=>fCs cs fun cs=>k (.tup ws cs)
theorem axR (T:TT) (k:TT->α):fT T k=k T:=by
 cases T with
 | dead=>rfl
 | val ag cs=>rw [fT,ao5,I_]
 | alias ag cs r sk off S=>rw [fT,ao5,I_,xu,De ao6,xu,De xu]
 | box cs=>rw [fT,I_]
 | ptr r sk off S=>rw [fT,xu,De ao6,xu,De xu]
 | tup ws cs=>rw [fT,De aDZ,I_]
def fTs (l:aa TT) (k:aa TT->α):α:=fL fT l k
theorem ahx (l:aa TT) (k:aa TT->α):fTs l k=k l:=De axR l k
def fU (p:Nat × TT) (k:Nat × TT->α):α:=fN p.1 fun a=>fT p.2 fun b=>k (a,b)
theorem aD1 (p:Nat × TT) (k:Nat × TT->α):fU p k=k p:=by unfold fU;rw [xu,axR]
def fUp (l:aa (Nat × TT)) (k:aa (Nat × TT)->α):α:=fL fU l k
theorem aBl (l:aa (Nat × TT)) (k:aa (Nat × TT)->α):fUp l k=k l:=De aD1 l k
end
end Go.Fw
namespace Go.Fw
def nN (P:aR) (sigs:FuncId->ah aO) (N:Nat) (D0l:aa TT) (jM:Nat->aa Nat) (mV:aa Hint):Nat->aa bS->aa OpR->ah (aa OpR)
 | _,[],rs=>some rs.reverse
 | i,o::os,rs=>match Ec P sigs N D0l rs (jM i) (mV.getD i ⟨false,[],[]⟩) o with
  | some x=>fUp x.up fun up=>nN P sigs N D0l jM mV (i+1) os ({ x with up:=up }::rs)
  | none=>none
def uu (rs:aa OpR) (i:Nat):aa Nat:=(rV rs i).map (·.1)++(Bi rs i).toList
theorem adt {P:aR} {sigs:FuncId->ah aO} {N:Nat} {D0l:aa TT} {jM:Nat->aa Nat} {mV:aa Hint}:∀{os:aa bS} {rs0 rs:aa OpR} {i:Nat},nN P sigs N D0l jM mV i os rs0=some rs->rs0.length=i ->
  rs.length=i+os.length/\(∃post,rs=rs0.reverse++post)/\∀k o,os[k]?=some o->∃x,rs[i+k]?=some x/\Ec P sigs N D0l ((rs.take (i+k)).reverse) (jM (i+k)) (mV.getD (i+k) ⟨false,[],[]⟩) o=some x
 | [],rs0,rs,i,h,hl=>by
  simp only [nN,aK] at h
  subst h
  exact ⟨by simp [hl],⟨[],by simp⟩,fun k o hk=>by simp at hk⟩
 | o::os,rs0,rs,i,h,hl=>by
  simp only [nN] at h
  split at h
  case h_2=>cases h
  case h_1 x hx=>
  rw [aBl] at h
  have h:nN P sigs N D0l jM mV (i+1) os (x::rs0)=some rs:=h
  obtain ⟨k1,⟨post,k2⟩,k3⟩:=adt h (by simp [hl])
  refine ⟨by simp only [bA];omega,⟨x::post,by rw [k2];simp⟩,fun k o' hk => ?_⟩
  cases k with
  | zero=>
   simp at hk
   subst hk
   refine ⟨x,?_,?_⟩
   ·rw [k2];simp [<-hl]
   ·have:(rs.take (i+0)).reverse=rs0:=by
     rw [k2,rJ,<-hl];simp
    rw [this];exact hx
  | succ k=>
   obtain ⟨x',g1,g2⟩:=k3 k o' (by simpa using hk)
   rw [show i+1+k=i+(k+1) from by omega] at g1 g2
   exact ⟨x',g1,g2⟩
structure ao7 (P:Program) (N:Nat) (o:Oper) (x:OpR):Prop where
 ok:∀b,d_ P N o (x.g b) (x.S b)
 kl:∀b,(x.S b).kl=(x.S true).kl
 sup:∀b,(x.S b).up=(x.S true).up
 up:∃ks:List Nat,x.up=(x.S true).up++ks.map fun t=>(t,.dead)
 d:x.d=o.dst
 gd:x.gd=o.guard
 kd:(x.S true).kl .dead = .dead
 vl:∀b s v,(x.S b).eff.rel P s v->v.length<=(x.S b).up.length/\0<v.length
theorem amq {P:aR} {N:Nat} {g:Nat->TT} {o:bS} {d c:Nat} {x y:iN} {X Y:DX} {b:Bool} (ho:o.op = .pick (.tmp c) x y) (hd:o.dst=some d) (hdN:d<N) (hx:nL g (if b then x else y)=some (if b then X else Y)) {C:DX}
  (hc:nL g (.tmp c)=some C):d_ P N o g (Ku d c X Y b):=by
 intro ac κ0 κ w0 w tg sv s a v next Q hN hR hL hv bT;simp only [Ku,Stp.set,Eff.rel] at hv;split at hv;case h_2=>cases hv
 case h_1 cv hcv=>
 split at hv;case isFalse=>cases hv
 case isTrue hcb=>
 subst hcb;split at hv;case h_2=>cases hv
 case h_1 y' hy=>
 cases hv;obtain ⟨e1,e2⟩:=vH hR hL hx hy;have hC:C = .t c:=by
  simp only [nL] at hc;split at hc
  ·cases hc;rfl
  ·cases hc
 subst hC;obtain ⟨e3,_⟩:=vH hR hL hc (v:=.bool cv) (by
  simp only [DX.get]
  unfold kT at hcv
  split at hcv
  ·rename_i c' is hs;cases hcv;rw [hs]
  ·cases hcv)
 refine iO hd hN hdN (w':=w) (x:=y') ?_ (Oo hR hdN e2 (Grows.refl w)) bT;unfold execOp;rw [ho];simp only [e3];cases cv with
 | true=>simp only [if_true] at e1;simp only [e1];rfl
 | false=>simp only [eQ,if_false] at e1;simp only [e1];rfl
theorem adu {P:aR} {sigs:FuncId->ah aO} {N:Nat} {D0l:aa TT} {rs:aa OpR} {WZ:aa Nat} {h:Hint} {o:bS} {x:OpR} (hx:Ec P sigs N D0l rs WZ h o=some x):ao7 P N o x:=by
 unfold Ec at hx;simp only at hx;split at hx
 ·rename_i c xx yy d ng hd;split at hx;case h_2=>cases hx
  case h_1 X Y C1 C2 hX hY hC1 hC2=>
  split at hx;case isFalse=>cases hx
  case isTrue hdN=>
  cases hx;refine ⟨fun b => ?_,fun b=>rfl,fun b=>rfl,⟨_,rfl⟩,hd.symm,rfl,rfl,fun b s v hv => ?_⟩
  ·cases b with
   | true=>exact amq ng hd hdN hX hC1
   | false=>exact amq ng hd hdN hY hC2
  ·simp only [Ku,Stp.set,Eff.rel] at hv ⊢;repeat' split at hv
   all_goals first
    | (cases hv;simp)
    | cases hv
 ·split at hx;case h_2=>cases hx
  case h_1 S hS=>
  cases hx;obtain ⟨k1,k2,k3⟩:=aml hS;exact ⟨fun b=>k1,fun b=>rfl,fun b=>rfl,⟨_,rfl⟩,rfl,rfl,k2,fun b s v hv=>k3 s v hv⟩
def vL (np:Nat->Bool) (N:Nat) (D0l:aa TT) (rs:aa OpR) (bef:Nat->Nat->Bool) (jM:Nat->aa Nat):Bool:=
 (List.range rs.length).all fun i=>match rs[i]? with
  | none=>false
  | some o=>
   ((List.range rs.length).all fun j=>(j == i) || bef i j || bef j i || ((uu rs j).all fun t=>(jM i).contains t && !(uu rs i).contains t)) &&
   ((List.range rs.length).all fun j=>(j == i) || bef i j || ((rV rs j).all fun p=>(o.up.map (·.1)).contains p.1 || ((o.S true).kl p.2).beq p.2)) &&
   ((alv D0l).all fun p=>(o.up.map (·.1)).contains p.2 || ((o.S true).kl p.1).beq p.1) &&
   (match o.d with
    | some d=>decide (d<N) && !np d
    | none=>true) &&
   (match o.gd with
    | none=>true
    | some (j,_)=>bef j i&&decide (j<i)&&(match Bi rs j with
      | some t=>((List.range rs.length).all fun k=>(k == j) || !(uu rs k).contains t)&&((rV rs j).map (·.1)).contains t&&(aC (fun _=>TT.dead) (rV rs j) t).beq (.val false [.d])
      | none=>false) &&
     (match o.d with
      | some d=>((alv D0l).all fun p=>(p.2 == d) || (p.1.kill [d] []).beq p.1)&&((List.range rs.length).all fun j=>(j == i) || bef i j || ((rV rs j).all fun p=>(p.1 == d) || (p.2.kill [d] []).beq p.2))
      | none=>true)) &&
   ([true,false].all fun b=>((o.S b).up.drop 1).all fun p=>p.2.isDead || !(o.g b p.1).isDead) &&
   (match o.pk with
    | some c=>Nat.ble ((List.range rs.length).filter fun k=>(uu rs k).contains c).length 1
    | none=>true)
end Go.Fw
namespace Go.Fw
theorem aBm {r:bR} {L:Nat->Bool} {j t:Nat} (hj:j<r.n) (hL:L j=true) (hw:r.wn j=true) (ht:t∈(r.up j).map (·.1)) (ho:∀k,k<r.n->r.Wd k t->k=j) :
  ∀k,j<k->k<=r.n->r.dL L k t=aC (fun _=>.dead) (r.up j) t:=by
 intro k;induction k with
 | zero=>intro h;omega
 | succ k ih=>
  intro h1 h2;simp only [bR.dL];by_cases hkj:k=j
  ·subst hkj;rw [hL,if_pos rfl];unfold bR.dS;rw [hw,if_pos rfl];exact bR.upds_in ht
  ·have hn:¬r.Wd k t:=fun rC=>hkj (ho k (by omega) rC)
   have:=ih (by omega) (by omega);split
   ·rw [bR.dS_out hn];exact this
   ·exact this
theorem asG {r:bR} {L:Nat->Bool} {j t:Nat} (ho:∀k,k<r.n->r.Wd k t->k=j):∀k,j<k->k<=r.n->r.sL L k t=r.sL L (j+1) t:=by
 intro k;induction k with
 | zero=>intro h;omega
 | succ k ih=>
  intro h1 h2;by_cases hkj:k=j
  ·rw [hkj]
  ·have hn:¬r.Wd k t:=fun rC=>hkj (ho k (by omega) rC)
   have:=ih (by omega) (by omega);simp only [bR.sL];split
   ·rw [bR.sS_out hn];exact this
   ·exact this
theorem ao8 {r:bR} {k i:Nat} (h:k<=i):r.sL (bR.lt i) k=r.sL allT k:=bR.sL_congr k fun j hj=>by simp [bR.lt,allT];omega
theorem amr {D0l:aa TT} {t:Nat} {T:TT} (hT:D0l[t]?=some T) (Oc:T≠.dead):(T,t)∈alv D0l:=by
 unfold alv;rw [jT,List.mem_zipIdx_iff_getElem?];refine ⟨hT,?_⟩;cases T<;>first|exact absurd rfl Oc|rfl
section
variable {P:aR} {sigs:FuncId->ah aO} {N:Nat} {D0l:aa TT} {jM:Nat->aa Nat} {mV:aa Hint} {l:aa bS} {rs:aa OpR} {bef:Nat->Nat->Bool} {s0:Nat->AV} {np:Nat->Bool} {px:Nat->aj} {wl:aa Bool} {vl:aa (aa AV)}
theorem oL (a_:vL np N D0l rs bef jM=true) {i:Nat} {o:OpR} (ho:rs[i]?=some o) :
  (∀j,j<rs.length->j≠i->bef i j=false->bef j i=false->∀t,t∈uu rs j->t∈jM i/\t∉uu rs i) /\
  (∀j,j<rs.length->j≠i->bef i j=false->∀t T,(t,T)∈rV rs j->t∉o.up.map (·.1)->(o.S true).kl T=T) /\
  (∀t T,D0l[t]?=some T->T≠.dead->t∉o.up.map (·.1)->(o.S true).kl T=T)/\(∀d,o.d=some d->d<N/\np d=false) /\
  (∀j b,o.gd=some (j,b)->bef j i=true/\j<i/\(∃t,Bi rs j=some t/\(∀k,k<rs.length->t∈uu rs k->k=j)/\t∈(rV rs j).map (·.1)/\aC (fun _=>TT.dead) (rV rs j) t = .val false [.d]) /\
   ∀d,o.d=some d->(∀t T,D0l[t]?=some T->t≠d->T.kill [d] []=T)/\∀k,k<rs.length->k≠i->bef i k=false->∀t T,(t,T)∈rV rs k->t≠d->T.kill [d] []=T) /\
  (∀b p,p∈(o.S b).up.drop 1->p.2 = .dead\/o.g b p.1≠.dead) /\
  (∀c,o.pk=some c->∀k k',k<rs.length->k'<rs.length->c∈uu rs k->c∈uu rs k'->k=k'):=by
 have hi:=(bn ho).1;unfold vL at a_;rw [bW] at a_;have h:=a_ i (jh.2 hi);rw [ho] at h;simp only [aM] at h;obtain ⟨⟨⟨⟨⟨⟨h1,h2⟩,h3⟩,h4⟩,h5⟩,h6⟩,h7⟩:=h;refine ⟨fun j hj iE JX uW t ht => ?_,fun j hj iE JX t T hT ht => ?_,fun t T hT Oc ht => ?_,fun d hd => ?_,fun j b hg => ?_,fun b p hp => ?_,fun c hc k k' hk mR Hq aGT => ?_⟩
 ·have:=(bW.1 h1) j (jh.2 hj);simp only [JX,uW,Bool.or_false,iQ,beq_iff_eq] at this;have:=(bW.1 (this.resolve_left iE)) t ht;simpa using this
 ·have:=(bW.1 h2) j (jh.2 hj);simp only [JX,Bool.or_false,iQ,beq_iff_eq] at this;have:=(bW.1 (this.resolve_left iE)) (t,T) hT;simp only [iQ] at this;rcases this with h|h
  ·exact absurd (by simpa using h) ht
  ·exact TT.beq_eq h
 ·have hm:(T,t)∈alv D0l:=amr hT Oc;have:=(bW.1 h3) (T,t) hm;simp only [iQ] at this;rcases this with h|h
  ·exact absurd (by simpa using h) ht
  ·exact TT.beq_eq h
 ·rw [hd] at h4;simpa using h4
 ·rw [hg] at h5;simp only [aM,decide_eq_true_eq] at h5;obtain ⟨⟨⟨g1,g2⟩,g3⟩,g4⟩:=h5;refine ⟨g1,g2,?_,fun d hd => ?_⟩
  ·split at g3
   ·rename_i t ht;simp only [aM] at g3;obtain ⟨⟨g5,g6⟩,g7⟩:=g3;refine ⟨t,ht,fun k hk hkt => ?_,by simpa using g6,TT.beq_eq g7⟩;have:=(bW.1 g5) k (jh.2 hk);simp only [iQ,beq_iff_eq,pU] at this;rcases this with h|h
    ·exact h
    ·simp at h;exact absurd hkt h
   ·cases g3
  ·rw [hd] at g4;simp only [aM] at g4;refine ⟨fun t T hT ht => ?_,fun k hk N9 hb t T hT ht => ?_⟩
   ·by_cases Oc:T = .dead
    ·subst Oc;rfl
    have hm:(T,t)∈alv D0l:=amr hT Oc;have:=(bW.1 g4.1) (T,t) hm;simp only [iQ,beq_iff_eq] at this;exact TT.beq_eq (this.resolve_left ht)
   ·have:=(bW.1 g4.2) k (jh.2 hk);simp only [hb,Bool.or_false,iQ,beq_iff_eq] at this;have:=(bW.1 (this.resolve_left N9)) (t,T) hT;simp only [iQ,beq_iff_eq] at this;exact TT.beq_eq (this.resolve_left ht)
 ·have:=(bW.1 h6) b (by cases b<;>simp);have:=(bW.1 this) p hp;simp only [iQ,pU] at this;rcases this with h|h
  ·exact .inl (F6 h)
  ·right;intro he;rw [he] at h;simp [TT.isDead] at h
 ·rw [hc] at h7;have h8:=Nat.le_of_ble_eq_true h7;have m1:k∈(List.range rs.length).filter fun k=>(uu rs k).contains c:=jT.2 ⟨jh.2 hk,by simpa using Hq⟩
  have m2:k'∈(List.range rs.length).filter fun k=>(uu rs k).contains c:=jT.2 ⟨jh.2 mR,by simpa using aGT⟩
  generalize (List.range rs.length).filter (fun k=>(uu rs k).contains c)=l at h8 m1 m2;match l,h8,m1,m2 with
  | [x],_,m1,m2=>
   rw [bY] at m1 m2;rw [m1,m2]
end
end Go.Fw
