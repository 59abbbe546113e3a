/- A way of showing what a function computes: the blocks of the heap are owned by the places that lW them; this is a part of it. No conditions. -/
import Derived.Test.YtbdciplhpomakaaGreatG1
import Derived.Orders
import Derived.OrdersHeld
import Derived.Laws.StructEq
import Derived.Laws.BytesString
set_option linter.unusedSectionVars false
namespace Go.Fw
def qE (g:Nat->TT) (t:Nat):Nat->TT:=fun u=>if u=t then .dead else (g u).kill [t] [t]
def yV (t r base:Nat) (κ:aQ):aQ:=fun b=>
 match κ b with
 | some (r',m::q)=>if r'=t then some (r,(base+m)::q) else some (r',m::q)
 | x=>x
theorem abN {t r base:Nat} {κ:aQ} {b:Nat} (h:∀q,κ b≠some (t,q)):yV t r base κ b=κ b:=by
 unfold yV;split
 ·rename_i r' m q hk;rw [if_neg (by rintro rfl;exact h _ hk),hk]
 ·rfl
theorem ac8 {t r base:Nat} {κ:aQ} {b:Nat} (h:κ b=none):yV t r base κ b=none:=by
 rw [abN (by rw [h];simp),h]
section
variable {ac:Nat->Nat->aj} {κ0 κ:aQ} {w0 w:aA} {N:Nat} {tg:Nat->TT} {sv:Nat->AV} {tm:Nat->aj}
theorem avB (h:R ac κ0 w0 κ w N tg sv tm) {t r base:Nat} (lG:t<N):R ac κ0 w0 (yV t r base κ) w N (qE tg t) sv tm:=by
 refine uf (mods:=[t]) (M:=[t]) h ?_ (fun S hS b hb => ?_) (fun b r' q hr hb => ?_) (fun r' hr => ?_) (fun _ _=>rfl) (fun _ _=>rfl) (fun u hu => ?_) (fun u hu => ?_) (fun b hb => ?_) ?_
 ·have:=h.nle;simp only [cK];omega
 ·have aX:∀q,κ b≠some (t,q):=fun q hk=>hS t (by simp) (hb.2 _ _ hk).1
  exact ⟨⟨hb.1,fun r' q hk=>by rw [abN aX] at hk;exact hb.2 _ _ hk⟩,Same.refl w b⟩
 ·simp only [cK] at hr;exact ⟨abN (by rw [hb];intro q hk;cases hk;exact hr rfl),Same.refl w b⟩
 ·simp only [cK] at hr;left;simp [qE,hr]
 ·simp only [cK] at hu;subst hu;simp [qE,TR]
 ·have:u≠t:=by omega
  simp only [qE,if_neg this,h.out u hu];rfl
 ·exact ac8 (h.col b hb)
 ·refine ⟨h.fr.size,fun b hb h0 => ?_,h.fr.os,h.fr.out,h.fr.tape⟩;have:=h.fr.kept b hb h0;exact ⟨ac8 this.1,this.2⟩
end
theorem arS {g tg:Nat->TT} {s sv:Nat->AV} (h:Le g s tg sv) (t:Nat):Le (qE g t) s (qE tg t) sv:=by
 intro u;by_cases hu:u=t
 ·left;simp [qE,hu]
 ·rcases h u with h1|h1
  ·left;simp only [qE,if_neg hu,h1];rfl
  ·right;simp only [qE,if_neg hu,h1.1];exact ⟨trivial,h1.2⟩
def MG (j j2 base:Nat) (q:aa Nat):ah Pl:=
 match q with
 | m::q'=>if base<=m then some (j2,(m-base)::q') else some (j,m::q')
 | []=>some (j,[])
section
variable {P:aS} {ac:Nat->Nat->aj} {κ0 κ:aQ} {w0 w:aA} {N:Nat} {tg g:Nat->TT} {sv s:Nat->AV} {a:Act}
theorem ayV (h:R ac κ0 w0 κ w N tg sv (gm a)) {t r j j2 base:Nat} {ag:Bool} {cs cs':aa CT} (ht:tg t = .val ag cs') (aT:BI cs' cs=true) {as:aa A} {is:aa Nat} (hs:sv t = .v as is) {Sall:aa Nat} :
  pI (fA (yV t r base κ) (some r) (MG j j2 base) Sall) w j2 (gm a t) as (.tk ag cs):=by
 have h1:=h.tr t;rw [ht] at h1;simp only [TR] at h1;obtain ⟨as',vs,g1,g2,g3,_,g5⟩:=h1;rw [hs] at g1;cases g1;refine ⟨vs,g2,by rw [g3,Jc aT],?_⟩;have:=fQ (f:=id) (P:=fun _=>False) (κ:=κ) (w:=w) (κ':=fA (yV t r base κ) (some r) (MG j j2 base) Sall) (w':=w) (p':=(j2,[])) (j':=0) (get':=fun k=>vs.getD k undef) (fun S hS=>hS.elim) (uh (ui aT).2.2) (fun i hi b q hb=>⟨?_,Same.refl w b⟩) (fun i hi=>rfl) (RH aT g5)
 ·rwa [iM] at this
 ·have b_:κ b=some (t,i::q):=by rw [hb];simp
  unfold fA yV;rw [b_];simp only [if_true,MG];rw [if_pos (by omega),show base+i-base=i from by omega];simp
theorem ayW (h:R ac κ0 w0 κ w N tg sv (gm a)) {r j j2:Nat} {cr cs:aa CT} (hr:tg r = .box cr) (aT:X9 cr cs=true) {as:aa A} {is:aa Nat} (hs:sv r = .v as is) {Sall:aa Nat} (hrS:r∉Sall) (hS:∀m,m∈CT.roSs cr->m∈Sall) {x:aj} (hx:x=gm a r) :
  pI (fA κ (some r) (MG j j2 cr.length) Sall) w j x as (.mp cs):=by
 have h1:=h.tr r;rw [hr] at h1;simp only [TR] at h1;obtain ⟨as',b,g1,g2,g3,g4,g5,g6,g7⟩:=h1;rw [hs] at g1;cases g1;subst hx;simp only [X9,aU] at aT;have ry:=CT.beqs_eq aT.1.1.1;have hl:cr.length=cs.length:=by
  have:=congrArg List.length ry;simpa [iR,gq] using this
 refine ⟨b,g2,g3,?_,by rw [<-hl];exact g5,?_⟩
 ·unfold fA;rw [g4];simp [MG]
 ·have:=fQ (f:=fun _=>[]) (P:=fun S=>∀m,m∈S->m∈Sall) (κ:=κ) (w:=w) (κ':=fA κ (some r) (MG j j2 cr.length) Sall) (w':=w) (p':=(j,[])) (j':=0) (get':=cellD w b) (fun S hS b' hb=>⟨⟨hb.1,fun r' q hq => ?_⟩,Same.refl w b'⟩) (pJ hS) (fun i hi b' q hb=>⟨?_,Same.refl w b'⟩) (fun i hi=>rfl) g7
  ·have h2:=fV.2 this;rw [ry] at h2;exact fV.1 h2
  ·exfalso;unfold fA at hq;cases hk:κ b' with
   | none=>simp [hk] at hq
   | some p=>
    obtain ⟨r2,q2⟩:=p;obtain ⟨h3,h4⟩:=hb.2 _ _ hk;have h5:=hS _ h3;have h6:r2≠r:=by rintro rfl;exact hrS h5
    simp [hk,h6,h5,h4] at hq
  ·have b_:κ b'=some (r,i::q):=by rw [hb];simp
   unfold fA;rw [b_];simp only [if_true,MG];rw [if_neg (by omega)];simp
end
def arT:Nat->aa PM->aa iL->ah (Nat × Nat)
 | i,.tk _ _::_,.tmp t::_=>some (i,t)
 | i,_::ps,_::xs=>arT (i+1) ps xs
 | _,_,_=>none
def wQ (P:aS) (g:Nat->TT) (ag':Bool) (cs':aa CT) (t j2:Nat):Nat->aa PM->aa iL->aa TypeId->ah AX
 | _,[],[],[]=>some ⟨[],[],[],none⟩
 | i,pm::ps,x::xs,ty::tys=>match wQ P g ag' cs' t j2 (i+1) ps xs tys with
  | some Y=>match pm with
   | .rd ag cs=>match rdX P g ty i ag cs x with
    | some (X,S)=>some ⟨X.get::Y.gets,X.rd++Y.rd,S++Y.S,Y.sp⟩
    | none=>none
   | .tk ag cs=>match x with
    | .tmp t'=>if t'=t/\i=j2/\ag=ag'/\BI cs' cs=true then some ⟨iO t::Y.gets,t::Y.rd,Y.S,Y.sp⟩ else none
    | _=>none
   | .mp cs=>match Y.sp,sV g (.mp cs) x with
    | none,some (f,rd)=>some ⟨f::Y.gets,rd++Y.rd,Y.S,some (i,.mp cs,x)⟩
    | _,_=>none
   | .mt _ _=>none
  | none=>none
 | _,_,_,_=>none
section
variable {P:aS} {ac:Nat->Nat->aj} {κ0 κ:aQ} {w0 w:aA} {N:Nat} {tg g:Nat->TT} {sv s:Nat->AV} {a:Act}
theorem ac9 (h:R ac κ0 w0 κ w N tg sv (gm a)) (hL:Le g s tg sv) {r0:ah Nat} {gG:aa Nat->ah Pl} {Sall:aa Nat} (oq:∀r,r0=some r->r∉Sall) {ag':Bool} {cs':aa CT} {t j2:Nat}
  (Nt:∀cs as,BI cs' cs=true->iO t s=some as->pI (fA κ r0 gG Sall) w j2 (gm a t) as (.tk ag' cs)) :
  ∀{i:Nat} {ps:aa PM} {xs:aa iL} {tys:aa TypeId} {Y:AX} {ass:aa (aa A)},wQ P g ag' cs' t j2 i ps xs tys=some Y->oz s Y.gets=some ass->(∀r,r∈Y.S->r∈Sall) ->
   (∀j cs x f rd as,Y.sp=some (j,.mp cs,x)->sV g (.mp cs) x=some (f,rd)->f s=some as->pI (fA κ r0 gG Sall) w j (a.eval x) as (.mp cs)) ->
   xs.length=ps.length/\ass.length=ps.length/\(∀k pm x as,ps[k]?=some pm->(xs.map a.eval)[k]?=some x->ass[k]?=some as->pI (fA κ r0 gG Sall) w (i+k) x as pm) /\
   (∀j pm x,Y.sp=some (j,pm,x)->i<=j/\ps[j-i]?=some pm/\pm.mut=true/\xs[j-i]?=some x)
 | i,[],[],[],Y,ass,hx,hg,_,_=>by
  simp only [wQ,aN] at hx
  subst hx
  simp only [oz,aN] at hg
  subst hg
  simp
 | i,pm::ps,x::xs,ty::tys,Y,ass,hx,hg,hS,sH=>by
  simp only [wQ] at hx
  split at hx
  case h_2=>cases hx
  case h_1 Y' hY=>
  have fin:∀{f:(Nat->AV)->ah (aa A)} {rd S:aa Nat} {sp:ah (Nat × PM × iL)} {ass':aa (aa A)} {as:aa A},
    (Y'.sp=sp\/Y'.sp=none/\sp=some (i,pm,x)/\pm.mut=true)->oz s Y'.gets=some ass'->ass=as::ass'->(∀r,r∈Y'.S->r∈Sall) ->
    (∀j cs x f rd as,Y'.sp=some (j,.mp cs,x)->sV g (.mp cs) x=some (f,rd)->f s=some as->pI (fA κ r0 gG Sall) w j (a.eval x) as (.mp cs))->pI (fA κ r0 gG Sall) w i (a.eval x) as pm->Y.sp=sp ->
    (x::xs).length=(pm::ps).length/\ass.length=(pm::ps).length/\(∀k pm' x' as,(pm::ps)[k]?=some pm'->((x::xs).map a.eval)[k]?=some x'->ass[k]?=some as->pI (fA κ r0 gG Sall) w (i+k) x' as pm') /\
   (∀j pm' x',Y.sp=some (j,pm',x')->i<=j/\(pm::ps)[j-i]?=some pm'/\pm'.mut=true/\(x::xs)[j-i]?=some x'):=by
   intro f rd S sp ass' as aFq qm hae hS' aFr aFs aFt;subst hae;obtain ⟨k1,k2,k3,k4⟩:=ac9 h hL oq Nt hY qm hS' aFr;refine ⟨by simp [k1],by simp [k2],fun k pm' x' as' h1 h2 h3 => ?_,fun j pm' x' hj => ?_⟩
   ·cases k with
    | zero=>
     simp at h1 h2 h3;subst h1 h2 h3;exact aFs
    | succ k=>
     rw [show i+(k+1)=i+1+k from by omega];exact k3 k pm' x' as' (by simpa using h1) (by simpa using h2) (by simpa using h3)
   ·rw [aFt] at hj;rcases aFq with he|⟨hn,he,hm⟩
    ·obtain ⟨g1,g2,g3,g4⟩:=k4 j pm' x' (he.trans hj);have e1:j-i=(j-(i+1))+1:=by omega
     rw [e1];exact ⟨by omega,by simpa using g2,g3,by simpa using g4⟩
    ·rw [he] at hj;simp only [aN,di] at hj;obtain ⟨rfl,rfl,rfl⟩:=hj;exact ⟨eX _,by simp,hm,by simp⟩
  split at hx
  ·rename_i ag cs
   split at hx
   case h_2=>cases hx
   case h_1 X S hX=>
   cases hx
   simp only [oz] at hg
   split at hg
   case h_2=>cases hg
   case h_1 as ass' jU qm=>
   cases hg
   exact fin (f:=X.get) (rd:=[]) (S:=[]) (.inl rfl) qm rfl (fun r hr=>hS r (by simp [hr])) (fun j cs x f rd as hj=>sH j cs x f rd as hj) (arR h hL hX jU (fun r hr=>hS r (by simp [hr])) oq) rfl
  ·rename_i ag cs
   split at hx
   case h_2=>cases hx
   case h_1 t'=>
   split at hx
   case isFalse=>cases hx
   case isTrue hc=>
   obtain ⟨rfl,rfl,rfl,aT⟩:=hc
   cases hx
   simp only [oz] at hg
   split at hg
   case h_2=>cases hg
   case h_1 as ass' jU qm=>
   cases hg
   exact fin (f:=iO t') (rd:=[]) (S:=[]) (.inl rfl) qm rfl hS (fun j cs x f rd as hj=>sH j cs x f rd as hj) (Nt cs as aT jU) rfl
  ·rename_i cs
   split at hx
   case h_2=>cases hx
   case h_1 f rd Xo hsg=>
   cases hx
   simp only [oz] at hg
   split at hg
   case h_2=>cases hg
   case h_1 as ass' jU qm=>
   cases hg
   exact fin (f:=f) (rd:=[]) (S:=[]) (.inr ⟨Xo,rfl,rfl⟩) qm rfl hS (fun j cs x f rd as hj=>by rw [Xo] at hj;cases hj) (sH i cs x f rd as rfl hsg jU) rfl
  ·cases hx
 | _,[],_::_,_,_,_,hx,_,_,_=>by simp [wQ] at hx
 | _,[],[],_::_,_,_,hx,_,_,_=>by simp [wQ] at hx
 | _,_::_,[],_,_,_,hx,_,_,_=>by simp [wQ] at hx
 | _,_::_,_::_,[],_,_,hx,_,_,_=>by simp [wQ] at hx
end
def aoP (sg:aL) (j:Nat):Bool:=
 match sg.ps[j]? with
 | some pm=>pm.mut
 | none=>false
theorem avC {sg:aL} {j:Nat} (h:aoP sg j=true):∃pm,sg.ps[j]?=some pm/\pm.mut=true:=by
 unfold aoP at h;split at h
 ·rename_i pm kC;exact ⟨pm,kC,h⟩
 ·cases h
def VX (P:aS) (sigs:FuncId->ah aL) (N:Nat) (g:Nat->TT) (o:bP):ah Stp:=
 match o.dst,o.op with
 | some d,.call c=>match c.callee with
  | .value (.func K)=>match P.funcs[K]?,sigs K with
   | some fn,some sg=>match arT 0 sg.ps c.args.toList with
    | some (j2,t)=>match g t with
     | .val ag' cs'=>match wQ P (qE g t) ag' cs' t j2 0 sg.ps c.args.toList fn.params.toList with
      | some Y=>match spK N (qE g t) Y.sp with
       | some (.mp r cr cs j)=>
        if d < N ∧ (fn.name == "runtime.NumGoroutine") = false ∧ fn.body.isNone = false ∧ (r ∉ Y.S ++ CT.roSs cr ∧ r ≠ d) ∧ af7 sg (Y.S ++ CT.roSs cr) = true ∧ sg.ps.length < FB ∧ t < N ∧ t ≠ d ∧ t ≠ r ∧ aoP sg j2 = true then
         some ⟨[(d,eG (Y.S++CT.roSs cr) sg.res),(r,.box (CT.mapSs (fun _=>Y.S++CT.roSs cr) (CT.unpins cs))),(t,.dead)],fun T=>(T.kill [t] [t]).killS r [d,r] [r],Y.rd++[r,t],.call K sg (fun s=>oz s Y.gets) fun res outs s=>(SK.mp r cr cs j).post sg.res res outs s⟩
        else none
       | _=>none
      | none=>none
     | _=>none
    | none=>none
   | _,_=>none
  | _=>none
 | _,_=>none
theorem akF {P:aS} {sigs:FuncId->ah aL} {N:Nat} {g:Nat->TT} {o:bP} {S:Stp} (h:VX P sigs N g o=some S):ek P N o g S:=by
 unfold VX at h;split at h;case h_2=>cases h
 case h_1 d c hd ho=>
 obtain ⟨callee,args,ats⟩:=c;simp only at h;split at h;case h_2=>cases h
 case h_1 _ K=>
 split at h;case h_2=>cases h
 case h_1 fn sg hf hsg=>
 split at h;case h_2=>cases h
 case h_1 j2 t0 aHT=>
 split at h;case h_2=>cases h
 case h_1 ag' cs' hT0=>
 split at h;case h_2=>cases h
 case h_1 Y hY=>
 split at h;case h_2=>cases h
 case h_1 r cr cs j hk=>
 split at h;case isFalse=>cases h
 case isTrue hc=>
 obtain ⟨hdN,arh,ari,oq,kS,ji,lG,aFu,aFv,aDt⟩:=hc;cases h;intro ac κ0 κ w0 w tg sv s a v next Q hN hR hL hv bU;simp only [Eff.rel] at hv;obtain ⟨ass,res,outs,Fu,CY,jo⟩:=hv;have pu:=ac6 (a:=a) (w:=w) ho hf arh ari;have sH:=ac7 hk;generalize BH:Y.sp=sp at sH;cases sH with
 | @mp _ t _ _ _ hr aT yf ht=>
  have J6:=avB (t:=t0) (r:=r) (base:=cr.length) hR lG;have hL2:=arS hL t0;obtain ⟨d1,d2⟩:=hL.at hT0 (by simp);obtain ⟨e1,e2⟩:=hL2.at hr (by simp);have Fx:∀u,some r=some u->u∉Y.S++CT.roSs cr:=fun u hu=>by cases hu;exact oq.1
  have MC:=aT;simp only [X9,aU] at MC;have ry:=CT.beqs_eq MC.1.1.1;have awN:CT.srcss (CT.unpins cs)=[]:=List.isEmpty_iff.1 MC.1.2;simp only [SK.post] at jo;split at jo;case h_2=>cases jo
  case h_1 oo hoo=>
  cases jo;have h1:=J6.tr r;rw [e1] at h1;simp only [TR] at h1;obtain ⟨ra,b,g1,g2,g3,g4,g5,g6,g7⟩:=h1;have hxr:gm a t=gm a r:=by
   rcases ht with rfl|⟨S0,hT⟩
   ·rfl
   ·obtain ⟨t1,t2⟩:=hL2.at hT (by simp);have h1:=J6.tr t;rw [t1] at h1;simp only [TR] at h1;obtain ⟨is,B,O,u1,u2,_,_,u5⟩:=h1;rw [e1] at u2;simp only [iA,rb,g2,dx] at u2;cases is with
    | nil=>
     simp only [wk,aN,di] at u2;rw [u5,g2,<-u2.1,<-u2.2]
    | cons=>simp [wk] at u2
  obtain ⟨k1,k2,k3,k4⟩:=ac9 (r0:=some r) (gG:=MG j j2 cr.length) (Sall:=Y.S++CT.roSs cr) J6 hL2 Fx (fun cs2 as aFw jU=>by
   obtain ⟨is,hs⟩:=cO jU
   exact ayV hR d1 aFw (by rw [d2,hs])) hY Fu (fun r hr=>jl _ hr) (fun j' cs2 x f rd as hj ku yJ=>by
   rw [BH] at hj
   simp only [aN,di,PM.mp.injEq] at hj
   obtain ⟨rfl,rfl,rfl⟩:=hj
   have gZ:∃is,s r = .v as is:=by
    rcases ht with rfl|⟨S0,hT⟩
    ·simp only [sV,hr,aN,di] at ku
     obtain ⟨rfl,_⟩:=ku
     exact cO yJ
    ·simp only [sV,hT,aN,di] at ku
     obtain ⟨rfl,_⟩:=ku
     exact cO yJ
   obtain ⟨is,hs⟩:=gZ
   exact ayW J6 e1 aT (by rw [e2,hs]) (Fx r rfl) (fun m hm=>jD _ hm) hxr)
  obtain ⟨_,yK,hmj,J5⟩:=k4 _ _ _ BH;refine yU (d:=d) (gB:=fun q=>some q) pu CY J6.col k1 k2 ji (fun q p _ hp => ?_) (fun k pm x as h1 h2 h3=>by simpa using k3 k pm x as h1 h2 h3) fun vv κ' w' qj lh MB => ?_
  ·have aCh:∃pm,sg.ps[j]?=some pm/\pm.mut=true:=⟨_,by simpa using yK,hmj⟩
   unfold MG at hp;split at hp
   ·split at hp
    ·cases hp;exact avC aDt
    ·cases hp;exact aCh
   ·cases hp;exact aCh
  ·have fD:r≠d:=oq.2;have akf:j<sg.ps.length:=by have:=(aZ yK).1;omega
   have oU:=MB j (.mp cs) (gm a t) oo (by simpa using yK) (by
    rw [kE];simp only [t_] at J5;rw [J5];rfl) hoo
   obtain ⟨b',o1,o2,o3,o4,o5⟩:=oU;have hko:gu (yV t0 r cr.length κ) (fA (yV t0 r cr.length κ) (some r) (MG j j2 cr.length) (Y.S++CT.roSs cr)) κ' sg.ps.length d w.heap.size (some r) (fun q=>some q) b'=some (r,[]):=by
    unfold gu;rw [o3];simp only;rw [if_neg (by omega),if_neg (by omega)]
   have eZ:TR ac (gu (yV t0 r cr.length κ) (fA (yV t0 r cr.length κ) (some r) (MG j j2 cr.length) (Y.S++CT.roSs cr)) κ' sg.ps.length d w.heap.size (some r) (fun q=>some q)) w' (aG (fun u=>(qE tg t0 u).kill [d,r] [r]) [(d,eG (Y.S++CT.roSs cr) sg.res),(r,.box (CT.mapSs (fun _=>Y.S++CT.roSs cr) (CT.unpins cs)))])
     (aG sv [(d,jm res sg.res),(r,.v oo [])]) (upd (gm a) d vv) r (.box (CT.mapSs (fun _=>Y.S++CT.roSs cr) (CT.unpins cs))):=by
    simp only [TR];refine ⟨oo,b',by simp [aG,fD],by rw [upd_ne _ _ _ fD,<-hxr,o1],o2,hko,by rw [gq,iR];exact o4,gp (Hr MC.2),?_⟩;refine fQ (f:=fun _=>Y.S++CT.roSs cr) (P:=fun S=>∀r,r∈S->∃pm,sg.ps[r]?=some pm/\pm.mut=false) (κ:=κ') (w:=w') (κ':=gu (yV t0 r cr.length κ) (fA (yV t0 r cr.length κ) (some r) (MG j j2 cr.length) (Y.S++CT.roSs cr)) κ' sg.ps.length d w.heap.size (some r) (fun q=>some q)) (w':=w') (p':=(r,[])) (j':=0) (get':=cellD w' b') (fun S hS b hb=>⟨qj.res_ro hS hb,Same.refl w' b⟩) (Cm.2 (by rw [awN];simp)) (fun i hi b2 q hb=>⟨?_,Same.refl w' b2⟩) (fun i hi=>rfl) (fV.2 o5)
    ·unfold gu;rw [hb];simp only;rw [if_neg (by omega),if_neg (by omega)]
   have jk:=Jd J6 qj hdN (fun u hu=>by cases hu;exact ⟨yf,fD⟩) (v:=vv) (tg':=aG (fun u=>(qE tg t0 u).kill [d,r] [r]) [(d,eG (Y.S++CT.roSs cr) sg.res),(r,.box (CT.mapSs (fun _=>Y.S++CT.roSs cr) (CT.unpins cs)))]) (sv':=aG sv [(d,jm res sg.res),(r,.v oo [])])
    (fun u hu aX=>by
     have Br:u≠r:=fun he=>aX (by rw [he])
     simp only [aG,if_neg hu,if_neg Br];rfl) (fun u hu aX=>by
     have Br:u≠r:=fun he=>aX (by rw [he])
     simp only [aG,if_neg hu,if_neg Br]) (by
     have:=qj.tr (ac:=ac) kS lh (aG (fun u=>(qE tg t0 u).kill [d,r] [r]) [(d,eG (Y.S++CT.roSs cr) sg.res),(r,.box (CT.mapSs (fun _=>Y.S++CT.roSs cr) (CT.unpins cs)))]) (aG sv [(d,jm res sg.res),(r,.v oo [])]) (upd (gm a) d vv) (by simp [aG]) (by simp [upd])
     simpa [aG] using this) (fun u hu=>by
     cases hu
     have:aG (fun u=>(qE tg t0 u).kill [d,r] [r]) [(d,eG (Y.S++CT.roSs cr) sg.res),(r,.box (CT.mapSs (fun _=>Y.S++CT.roSs cr) (CT.unpins cs)))] r = .box (CT.mapSs (fun _=>Y.S++CT.roSs cr) (CT.unpins cs)):=by simp [aG,fD]
     rw [this];exact eZ)
   have hR3:=af6 (tg2:=aG (fun u=>(qE tg t0 u).killS r [d,r] [r]) [(d,eG (Y.S++CT.roSs cr) sg.res),(r,.box (CT.mapSs (fun _=>Y.S++CT.roSs cr) (CT.unpins cs)))]) J6 jk (r:=r) (mods:=[d,r]) (M:=[r]) (X:=[d,r]) (by simp) (fun u hu=>by
    simp only [aY,sO,or_false,not_or] at hu
    simp [aG,upd,hu.1,hu.2]) (fun u hu=>by
    simp only [aY,sO,or_false] at hu
    rcases hu with rfl|rfl
    ·simp [aG]
    ·simp [aG,fD]) (fun hb=>⟨⟨_,by simp [aG,fD];rfl⟩,by simp [upd,fD]⟩)
   refine bU vv w' _ _ _ (by rw [hd,p8 (a:=a) (by rw [hN];exact hdN)];exact hR3) (fun u => ?_) (fun u=>by simp [aG]);simp only [aG];by_cases h1:u=d
   ·simp [h1]
   ·by_cases h2:u=r
    ·simp [h2,fD]
    ·by_cases h3:u=t0
     ·simp [h1,h2,h3,aFu,aFv,qE,TT.killS,TT.kill]
     ·simp [h1,h2,h3,qE]
end Go.Fw
namespace Go.Fw
structure bJ where
 n:Nat
 up:Nat->List (Nat × TT)
 dst:Nat->Option Nat
 bef:Nat->Nat->Bool
 D0:Nat->TT
 s0:Nat->AV
 wn:Nat->Bool
 vv:Nat->List AV
 np:Nat->Bool
 px:Nat->Value
namespace bJ
variable (r:bJ)
def Wd (k t:Nat):Prop:=t∈(r.up k).map (·.1)\/r.dst k=some t
def sS (k:Nat) (f:Nat->AV):Nat->AV:=if r.wn k then aG f (((r.up k).map (·.1)).zip (r.vv k)) else f
def dS (k:Nat) (f:Nat->TT):Nat->TT:=if r.wn k then aG f (r.up k) else fun t=>if r.dst k=some t then .dead else f t
def sL (L:Nat->Bool):Nat->Nat->AV
 | 0=>r.s0
 | k+1=>if L k then r.sS k (sL L k) else sL L k
def dL (L:Nat->Bool):Nat->Nat->TT
 | 0=>r.D0
 | k+1=>if L k then r.dS k (dL L k) else dL L k
theorem upds_out {α:Type} {f:Nat->α} {l:aa (Nat × α)} {t:Nat} (h:t∉l.map (·.1)):aG f l t=f t:=by
 induction l with
 | nil=>rfl
 | cons p l ih=>
  simp only [bv,aY,not_or] at h;simp only [aG,if_neg h.1,ih h.2]
theorem upds_in {α:Type} {f g:Nat->α} {l:aa (Nat × α)} {t:Nat} (h:t∈l.map (·.1)):aG f l t=aG g l t:=by
 induction l with
 | nil=>simp at h
 | cons p l ih=>
  simp only [bv,aY] at h;simp only [aG];split
  ·rfl
  ·rename_i aX;exact ih (h.resolve_left aX)
theorem zip_mem {α β:Type} {l:aa α} {v:aa β} {t:α} (h:t∈(l.zip v).map (·.1)):t∈l:=by
 obtain ⟨p,hp,rfl⟩:=bX.1 h;obtain ⟨a,b⟩:=p;exact (List.of_mem_zip hp).1
variable {r}
theorem sS_out {k t:Nat} {f:Nat->AV} (h:¬r.Wd k t):r.sS k f t=f t:=by
 simp only [Wd,not_or] at h;unfold sS;split
 ·exact upds_out fun hm=>h.1 (zip_mem hm)
 ·rfl
theorem dS_out {k t:Nat} {f:Nat->TT} (h:¬r.Wd k t):r.dS k f t=f t:=by
 simp only [Wd,not_or] at h;unfold dS;split
 ·exact upds_out h.1
 ·simp only [if_neg h.2]
theorem Dp {k t:Nat} {f g:Nat->AV} (h:f t=g t):r.sS k f t=r.sS k g t:=by
 unfold sS;split
 ·by_cases hm:t∈(((r.up k).map (·.1)).zip (r.vv k)).map (·.1)
  ·exact upds_in hm
  ·rw [upds_out hm,upds_out hm,h]
 ·exact h
theorem Dq {k t:Nat} {f g:Nat->TT} (h:f t=g t):r.dS k f t=r.dS k g t:=by
 unfold dS;split
 ·by_cases hm:t∈(r.up k).map (·.1)
  ·exact upds_in hm
  ·rw [upds_out hm,upds_out hm,h]
 ·simp only [h]
def lt (i:Nat):Nat->Bool:=fun j=>decide (j<i)
def ins (L:Nat->Bool) (i:Nat):Nat->Bool:=fun j=>j == i || L j
theorem s_loc {L:Nat->Bool} {i t:Nat} (hb:∀j k,r.bef j k=true->j<k) (h_:∀j k,r.bef j k=true->L k=true->L j=true) (hi:L i=false) (hr:∀j,r.bef j i=true->L j=true)
  (ho:∀j,j<r.n->r.Wd j t->r.bef j i=true\/r.bef i j=true\/j=i):∀k,k<=r.n->r.sL L k t=r.sL (lt i) (min k i) t:=by
 intro k;induction k with
 | zero=>intro _;simp [sL]
 | succ k ih=>
  intro hk;have ih:=ih (by omega);simp only [sL];by_cases hw:r.Wd k t
  ·rcases ho k (by omega) hw with h1|h1|h1
   ·have bR:=hb k i h1;rw [hr k h1,if_pos rfl,show min (k+1) i=min k i+1 from by omega,show min k i=k from by omega];simp only [sL,lt,bR,decide_true,if_true];rw [show min k i=k from by omega] at ih;exact Dp ih
   ·have bR:=hb i k h1;have hL:L k=false:=by
     cases hL:L k with
     | false=>rfl
     | true=>rw [h_ i k h1 hL] at hi;cases hi
    rw [hL,if_neg (by simp),ih];congr 1;omega
   ·subst h1;rw [hi,if_neg (by simp),ih];congr 1;omega
  ·have h1:(if L k then r.sS k (r.sL L k) else r.sL L k) t=r.sL L k t:=by
    split
    ·exact sS_out hw
    ·rfl
   rw [h1,ih];by_cases G6:k<i
   ·rw [show min (k+1) i=k+1 from by omega,show min k i=k from by omega];simp only [sL];split
    ·rw [sS_out hw]
    ·rfl
   ·congr 1;omega
theorem d_loc {L:Nat->Bool} {i t:Nat} (hb:∀j k,r.bef j k=true->j<k) (h_:∀j k,r.bef j k=true->L k=true->L j=true) (hi:L i=false) (hr:∀j,r.bef j i=true->L j=true)
  (ho:∀j,j<r.n->r.Wd j t->r.bef j i=true\/r.bef i j=true\/j=i):∀k,k<=r.n->r.dL L k t=r.dL (lt i) (min k i) t:=by
 intro k;induction k with
 | zero=>intro _;simp [dL]
 | succ k ih=>
  intro hk;have ih:=ih (by omega);simp only [dL];by_cases hw:r.Wd k t
  ·rcases ho k (by omega) hw with h1|h1|h1
   ·have bR:=hb k i h1;rw [hr k h1,if_pos rfl,show min (k+1) i=min k i+1 from by omega,show min k i=k from by omega];simp only [dL,lt,bR,decide_true,if_true];rw [show min k i=k from by omega] at ih;exact Dq ih
   ·have bR:=hb i k h1;have hL:L k=false:=by
     cases hL:L k with
     | false=>rfl
     | true=>rw [h_ i k h1 hL] at hi;cases hi
    rw [hL,if_neg (by simp),ih];congr 1;omega
   ·subst h1;rw [hi,if_neg (by simp),ih];congr 1;omega
  ·have h1:(if L k then r.dS k (r.dL L k) else r.dL L k) t=r.dL L k t:=by
    split
    ·exact dS_out hw
    ·rfl
   rw [h1,ih];by_cases G6:k<i
   ·rw [show min (k+1) i=k+1 from by omega,show min k i=k from by omega];simp only [dL];split
    ·rw [dS_out hw]
    ·rfl
   ·congr 1;omega
theorem s_ins {L:Nat->Bool} {i:Nat} (hi:L i=false) (Q_:∀j t,i<j->j<r.n->L j=true->¬(r.Wd i t/\r.Wd j t)) :
  ∀k,k<=r.n->∀t,r.sL (ins L i) k t=if i<k then r.sS i (r.sL L k) t else r.sL L k t:=by
 intro k;induction k with
 | zero=>intro _ t;simp [sL]
 | succ k ih=>
  intro hk t;have ih:=ih (by omega);simp only [sL];by_cases G6:k=i
  ·subst G6;rw [show ins L k k=true from by simp [ins],if_pos rfl,hi,if_pos (by omega),if_neg (by simp)];refine Dp ?_;rw [ih t,if_neg (by omega)]
  ·have awO:ins L i k=L k:=by simp [ins,G6]
   rw [awO];by_cases hL:L k=true
   ·rw [if_pos hL,if_pos hL];by_cases bR:i<k
    ·rw [if_pos (by omega)];by_cases hw:r.Wd k t
     ·have hn:¬r.Wd i t:=fun wz=>Q_ k t bR (by omega) hL ⟨wz,hw⟩
      rw [sS_out hn];refine Dp ?_;rw [ih t,if_pos bR,sS_out hn]
     ·rw [sS_out hw,ih t,if_pos bR];refine Dp ?_;rw [sS_out hw]
    ·rw [if_neg (by omega)];refine Dp ?_;rw [ih t,if_neg bR]
   ·rw [if_neg hL,if_neg hL];rw [ih t];by_cases bR:i<k
    ·rw [if_pos bR,if_pos (by omega)]
    ·rw [if_neg bR,if_neg (by omega)]
theorem d_ins {L:Nat->Bool} {i:Nat} (hi:L i=false) (Q_:∀j t,i<j->j<r.n->L j=true->¬(r.Wd i t/\r.Wd j t)) :
  ∀k,k<=r.n->∀t,r.dL (ins L i) k t=if i<k then r.dS i (r.dL L k) t else r.dL L k t:=by
 intro k;induction k with
 | zero=>intro _ t;simp [dL]
 | succ k ih=>
  intro hk t;have ih:=ih (by omega);simp only [dL];by_cases G6:k=i
  ·subst G6;rw [show ins L k k=true from by simp [ins],if_pos rfl,hi,if_pos (by omega),if_neg (by simp)];refine Dq ?_;rw [ih t,if_neg (by omega)]
  ·have awO:ins L i k=L k:=by simp [ins,G6]
   rw [awO];by_cases hL:L k=true
   ·rw [if_pos hL,if_pos hL];by_cases bR:i<k
    ·rw [if_pos (by omega)];by_cases hw:r.Wd k t
     ·have hn:¬r.Wd i t:=fun wz=>Q_ k t bR (by omega) hL ⟨wz,hw⟩
      rw [dS_out hn];refine Dq ?_;rw [ih t,if_pos bR,dS_out hn]
     ·rw [dS_out hw,ih t,if_pos bR];refine Dq ?_;rw [dS_out hw]
    ·rw [if_neg (by omega)];refine Dq ?_;rw [ih t,if_neg bR]
   ·rw [if_neg hL,if_neg hL];rw [ih t];by_cases bR:i<k
    ·rw [if_pos bR,if_pos (by omega)]
    ·rw [if_neg bR,if_neg (by omega)]
end bJ
end Go.Fw
namespace Go.Fw
structure RI (P:Program) (N:Nat) (ops:Array Oper) (St:Nat->Stp) (r:bJ):Prop where
 n:r.n=ops.size
 up:∀i,i<r.n->∃ks:List Nat,r.up i=(St i).up++ks.map fun t=>(t,.dead)
 dst:∀i o,ops[i]?=some o->r.dst i=o.dst
 lt:∀j k,r.bef j k=true->j<k
 disj:∀i j t,i<j->j<r.n->r.bef i j=false->¬(r.Wd i t/\r.Wd j t)
 guard:∀i o j b,ops[i]?=some o->o.guard=some (j,b)->r.bef j i=true/\∃t,r.dst j=some t/\(∀k,k<r.n->r.Wd k t->k=j)/\(r.wn j=true->r.dL (bJ.lt i) i t = .val false [.d])
 wn:∀i o,ops[i]?=some o->r.wn i=match o.guard with
  | none=>true
  | some (j,b)=>r.wn j&&(match r.dst j with
   | some t=>(match r.sL (bJ.lt i) i t with
    | .v [.v (.bool c)] _=>c == b
    | _=>false)
   | none=>false)
 kill:∀i,i<r.n->r.wn i=true->∀t,t∉(r.up i).map (·.1)->(St i).kl (r.D0 t)=r.D0 t/\∀j,j<r.n->j≠i->r.bef i j=false->∀T,(t,T)∈r.up j->(St i).kl T=T
 killu:∀i,i<r.n->r.wn i=false->∀d,r.dst i=some d->∀t,t≠d->(r.D0 t).kill [d] []=r.D0 t/\∀j,j<r.n->j≠i->r.bef i j=false->∀T,(t,T)∈r.up j->T.kill [d] []=T
 step:∀i o,ops[i]?=some o->r.wn i=true->∃g,ek P N o g (St i)/\(∀t,g t = .dead\/(g t=r.dL (bJ.lt i) i t/\∀j,j<r.n->r.Wd j t->r.bef j i=true\/r.bef i j=true\/j=i)) /\
  ∀t,t∈(St i).up.map (·.1)->t∉(((St i).up.map (·.1)).zip (r.vv i)).map (·.1)->aG (fun _=>.dead) (St i).up t = .dead\/g t≠.dead
 rel:∀i,i<r.n->r.wn i=true->(St i).eff.rel P (r.sL (bJ.lt i) i) (r.vv i)/\(r.vv i).length<=(St i).up.length
 unw:∀i,i<r.n->∀d,r.dst i=some d->d<N/\r.np d=false
structure RInv (ac:Nat->Nat->Value) (κ0:aQ) (w0:World) (N:Nat) (r:bJ) (L:Nat->Bool) (a:Act) (w:World):Prop where
 st:∃κ tg sv,R ac κ0 w0 κ w N tg sv (gm a)/\Le (r.dL L r.n) (r.sL L r.n) tg sv
 size:a.tmps.size=N
 defers:a.defers=[]
 par:∀i,r.np i=true->gm a i=r.px i
 und:∀j t,j<r.n->L j=true->r.wn j=false->r.dst j=some t->(∀k,k<r.n->r.Wd k t->k=j)->gm a t=undef
theorem Je {α β:Type}:∀{l m:aa α} {v:aa β},v.length<=l.length->(l++m).zip v=l.zip v
 | [],m,[],_=>by cases m<;>rfl
 | [],_,_::_,h=>by simp at h
 | a::l,m,[],_=>by simp
 | a::l,m,b::v,h=>by simp only [mZ,Rn];rw [Je (by simpa using h)]
theorem Dr {α:Type} (f:Nat->α):∀(l m:aa (Nat × α)) (t:Nat),aG f (l++m) t=aG (aG f m) l t
 | [],m,t=>rfl
 | (d,x)::l,m,t=>by simp only [mZ,aG];rw [Dr f l m t]
theorem al9 (f:Nat->TT):∀(ks:aa Nat) (t:Nat),t∈ks->aG f (ks.map fun t=>(t,TT.dead)) t = .dead
 | k::ks,t,h=>by
  simp only [bv,aG];split
  ·rfl
  ·rename_i aX;exact al9 f ks t ((aY.1 h).resolve_left aX)
 | [],_,h=>by simp at h
theorem agP {r:bJ} {L:Nat->Bool} {t:Nat}:∀k,k<=r.n->r.dL L k t = .dead\/r.dL L k t=r.D0 t\/∃j,j<r.n/\L j=true/\(t,r.dL L k t)∈r.up j:=by
 intro k;induction k with
 | zero=>intro _;right;left;rfl
 | succ k ih=>
  intro hk;simp only [bJ.dL];split
  ·rename_i hL;unfold bJ.dS;split
   ·by_cases hm:t∈(r.up k).map (·.1)
    ·right;right;refine ⟨k,by omega,hL,?_⟩;generalize r.dL L k=f;generalize r.up k=l at hm;induction l with
     | nil=>simp at hm
     | cons p l ihl=>
      simp only [aG];by_cases hp:t=p.1
      ·rw [if_pos hp,hp];exact dW
      ·rw [if_neg hp];simp only [bv,aY] at hm;exact dQ _ (ihl (hm.resolve_left hp))
    ·rw [bJ.upds_out hm];exact ih (by omega)
   ·simp only;split
    ·exact .inl rfl
    ·exact ih (by omega)
  ·exact ih (by omega)
theorem agQ (a:Act) (d:ah Tmp) (x:aj):(a.put d x).tmps.size=a.tmps.size:=by cases d<;>simp [Act.put]
theorem put_defers (a:Act) (d:ah Tmp) (x:aj):(a.put d x).defers=a.defers:=by cases d<;>rfl
section
variable {P:aS} {ac:Nat->Nat->aj} {κ0:aQ} {w0:aA} {N:Nat} {ops:Array bP} {St:Nat->Stp} {r:bJ} {Q:Exit->Act->aA->Prop}
theorem ac_ {a:Act} {d:ah Tmp} {x:aj} {t:Nat} (h:d≠some t):gm (a.put d x) t=gm a t:=by
 cases d with
 | none=>rfl
 | some d=>
  have:t≠d:=fun he=>h (by rw [he])
  simp [gm,Act.put,rD,abA,mH this]
theorem arU (aT:RI P N ops St r) {L:Nat->Bool} {a:Act} {w:aA} (vM:RInv ac κ0 w0 N r L a w) {i:Nat} {o:bP} (ho:ops[i]?=some o) (hi:L i=false)
  (h_:∀j k,r.bef j k=true->L k=true->L j=true) (hr:∀j,r.bef j i=true->L j=true):Region.wanted o (yielded ops a.tmps)=r.wn i:=by
 have bn:i<r.n:=by rw [aT.n];exact (aot.1 ho).1
 rw [aT.wn i o ho];unfold Region.wanted;cases hg:o.guard with
 | none=>rfl
 | some p=>
  obtain ⟨j,b⟩:=p;obtain ⟨hb,t,hdj,rA,hT⟩:=aT.guard i o j b ho hg;have hjn:j<r.n:=by have:=aT.lt j i hb;omega
  have hjo:∃oj,ops[j]?=some oj/\oj.dst=some t:=by
   have h1:j<ops.size:=by rw [<-aT.n];exact hjn
   exact ⟨ops[j],by simp [h1],by rw [<-aT.dst j _ (by simp [h1])];exact hdj⟩
  obtain ⟨oj,Fz,aFx⟩:=hjo;have hyl:yielded ops a.tmps j=match a.tmps[t]? with
   | some (.bool b)=>some b
   | _=>none:=by
   unfold yielded;simp only [Fz,aFx,af];cases a.tmps[t]? with
   | none=>rfl
   | some x=>cases x<;>rfl
  simp only [hdj,hyl];cases hw:r.wn j with
  | false=>
   have hu:=vM.und j t hjn (hr j hb) hw hdj rA;simp only [gm,rD] at hu;cases ha:a.tmps[t]? with
   | none=>simp
   | some x=>rw [ha] at hu;simp at hu;subst hu;simp [undef]
  | true=>
   obtain ⟨κ,tg,sv,hR,FC⟩:=vM.st;have Xp:∀k,k<r.n->r.Wd k t->r.bef k i=true\/r.bef i k=true\/k=i:=fun k hk wz=>by rw [rA k hk wz];exact .inl hb
   have hd1:=bJ.d_loc (r:=r) aT.lt h_ hi hr Xp r.n (eX _);have mY:=bJ.s_loc (r:=r) aT.lt h_ hi hr Xp r.n (eX _);rw [show min r.n i=i from by omega] at hd1 mY;rw [hT hw] at hd1;obtain ⟨e1,e2⟩:=FC.at hd1 (by simp);have h1:=hR.tr t;rw [e1] at h1;simp only [TR] at h1;obtain ⟨as,vs,g1,g2,g3,_,g5⟩:=h1;rw [e2,mY] at g1;have:=jW g2;subst this;cases as with
   | nil=>simp [aB] at g5
   | cons x as=>
    cases as with
    | cons=>simp [aB] at g5
    | nil=>
     simp only [aB] at g5;cases x with
     | s xs=>simp [RC] at g5
     | v y=>
      simp only [RC,uG] at g5;obtain ⟨⟨h2,h3⟩,_⟩:=g5;have bR:t<a.tmps.size:=by
       rw [vM.size];apply sM;intro cZ;have:=hR.out t cZ;rw [e1] at this;cases this
      have qp:a.tmps[t]?=some y:=by
       simp only [gm,rD] at h2;rw [VK bR] at h2 ⊢;simpa using h2
      rw [qp,g1];cases y<;>simp [sc] at h3 ⊢
theorem agR (aT:RI P N ops St r) {L:Nat->Bool} {a:Act} {w:aA} (vM:RInv ac κ0 w0 N r L a w) {i:Nat} (bn:i<r.n) (hi:L i=false)
  (h_:∀j k,r.bef j k=true->L k=true->L j=true) (hr:∀j,r.bef j i=true->L j=true) (K:Act->aA->Prop) (hK:∀a' w',RInv ac κ0 w0 N r (bJ.ins L i) a' w'->K a' w'):wpOp P ops Q i K a w:=by
 have h1:i<ops.size:=by rw [<-aT.n];exact bn
 have ho:ops[i]?=some ops[i]:=by simp [h1]
 unfold wpOp;rw [ho];simp only;rw [arU aT vM ho hi h_ hr];have Q_:∀j t,i<j->j<r.n->L j=true->¬(r.Wd i t/\r.Wd j t):=fun j t wC hj hL=>by
  refine aT.disj i j t wC hj ?_;cases hb:r.bef i j with
  | false=>rfl
  | true=>rw [h_ i j hb hL] at hi;cases hi
 have hsi:=fun t=>bJ.s_ins (r:=r) hi Q_ r.n (eX _) t
 have hdi:=fun t=>bJ.d_ins (r:=r) hi Q_ r.n (eX _) t
 simp only [if_pos bn] at hsi hdi;obtain ⟨κ,tg,sv,hR,FC⟩:=vM.st;have Xq:=aT.dst i _ ho;have arj:∀x j,r.np j=true->gm (a.put ops[i].dst x) j=r.px j:=by
  intro x j hj;rw [ac_ (fun he=>by
   have:=(aT.unw i bn j (by rw [Xq,he])).2
   rw [this] at hj;cases hj)]
  exact vM.par j hj
 -- what was not run stays so
 have aCj:∀x j t,j<r.n->bJ.ins L i j=true->r.wn j=false->r.dst j=some t->(∀k,k<r.n->r.Wd k t->k=j)->(j=i->x=undef)->gm (a.put ops[i].dst x) t=undef:=by
  intro x j t hj J7 hwj hd rA hx;by_cases ik:j=i
  ·subst ik;rw [hx rfl,<-Xq,hd,p8 (by rw [vM.size];exact (aT.unw j hj t hd).1),bS]
  ·have aX:ops[i].dst≠some t:=fun he=>ik (rA i bn (.inr (by rw [Xq,he]))).symm
   rw [ac_ aX];refine vM.und j t hj ?_ hwj hd rA;have:(j == i)=false:=by simpa using ik
   simpa [bJ.ins,this] using J7
 cases hw:r.wn i with
 | false=>
  simp only [iK,if_false];refine hK _ _ ⟨?_,by rw [agQ];exact vM.size,by rw [put_defers];exact vM.defers,arj undef,fun j t hj J7 hwj hd rA=>aCj undef j t hj J7 hwj hd rA fun _=>rfl⟩;cases hd:r.dst i with
  | none=>
   rw [hd] at Xq;refine ⟨κ,tg,sv,by rw [<-Xq,Ko];exact hR,fun t => ?_⟩;rw [hdi t,hsi t];simp only [bJ.dS,bJ.sS,hw,hd,iK,if_false];simpa using FC t
  | some d=>
   rw [hd] at Xq;have hdN:=(aT.unw i bn d hd).1;refine ⟨_,_,_,by rw [<-Xq,p8 (by rw [vM.size];exact hdN)];exact arI hR hdN (av:=.n) (x:=undef) (Grows.refl w),fun t => ?_⟩;rw [hdi t,hsi t];simp only [bJ.dS,bJ.sS,hw,hd,iK,if_false,kv,upd];by_cases fD:t=d
   ·subst fD;exact .inl (by simp)
   ·rw [if_neg fD,if_neg fD,if_neg (fun he=>fD (Option.some.inj he).symm)];have hku:=aT.killu i bn hw d hd t fD;have tK:=agP (r:=r) (L:=L) (t:=t) r.n (eX _);rcases FC t with h2|⟨h2,h3⟩
    ·exact .inl h2
    ·rcases tK with h4|h4|⟨j,hj,J7,h4⟩
     ·exact .inl h4
     ·right;refine ⟨?_,h3⟩;rw [<-h2,h4,hku.1]
     ·right;refine ⟨?_,h3⟩;have ik:j≠i:=fun he=>by rw [he,hi] at J7;cases J7
      have hbf:r.bef i j=false:=by
       cases hb:r.bef i j with
       | false=>rfl
       | true=>rw [h_ i j hb J7] at hi;cases hi
      rw [<-h2,hku.2 j hj ik hbf _ h4]
 | true=>
  simp only [if_true];left;obtain ⟨g,aFy,hg,hto⟩:=aT.step i _ ho hw;obtain ⟨pX,Cb⟩:=aT.rel i bn hw;have Xp:=fun t ht=>bJ.d_loc (r:=r) (t:=t) aT.lt h_ hi hr ht r.n (eX _)
  have aCl:=fun t ht=>bJ.s_loc (r:=r) (t:=t) aT.lt h_ hi hr ht r.n (eX _)
  rw [show min r.n i=i from by omega] at Xp aCl;have hLg:Le g (r.sL (bJ.lt i) i) tg sv:=fun t=>by
   rcases hg t with h2|⟨h2,h3⟩
   ·exact .inl h2
   ·rcases FC t with h4|⟨h4,h5⟩
    ·left;rw [h2,<-Xp t h3,h4]
    ·right;exact ⟨by rw [h2,<-Xp t h3,h4],by rw [<-aCl t h3,h5]⟩
  refine aFy ac κ0 κ w0 w tg sv _ a (r.vv i) _ Q vM.size hR hLg pX fun x w' κ' tg' sv' jk sF jB => ?_
  refine hK _ _ ⟨⟨κ',tg',sv',jk,fun t => ?_⟩,by rw [agQ];exact vM.size,by rw [put_defers];exact vM.defers,arj x,fun j t hj J7 hwj hd rA=>aCj x j t hj J7 hwj hd rA fun he=>by rw [he,hw] at hwj;cases hwj⟩;rw [hdi t,hsi t];simp only [bJ.dS,bJ.sS,hw,if_true];obtain ⟨ks,hks⟩:=aT.up i bn;rw [sF t,jB t];have aFz:((r.up i).map (·.1)).zip (r.vv i)=((St i).up.map (·.1)).zip (r.vv i):=by
   rw [hks,uH];exact Je (by simpa using Cb)
  rw [aFz];by_cases hm:t∈(r.up i).map (·.1)
  ·rw [hks] at hm ⊢;rw [Dr];by_cases hm1:t∈(St i).up.map (·.1)
   ·have ht:aG (aG (r.dL L r.n) (ks.map fun t=>(t,TT.dead))) (St i).up t=aG (fun t=>(St i).kl (tg t)) (St i).up t:=bJ.upds_in hm1;by_cases hz:t∈(((St i).up.map (·.1)).zip (r.vv i)).map (·.1)
    ·exact .inr ⟨ht,bJ.upds_in hz⟩
    ·rcases hto t hm1 hz with h2|h2
     ·left;rw [<-h2];exact bJ.upds_in hm1
     ·right;refine ⟨ht,?_⟩;rw [bJ.upds_out hz,bJ.upds_out hz];rcases hg t with h3|⟨h3,h4⟩
      ·exact absurd h3 h2
      ·rcases FC t with h5|h5
       ·exact absurd (by rw [h3,<-Xp t h4,h5]) h2
       ·exact h5.2
   ·left;rw [bJ.upds_out hm1];refine al9 _ ks t ?_;rw [uH,bG] at hm;simpa using hm.resolve_left hm1
  ·have Nu:t∉(St i).up.map (·.1):=fun h=>hm (by rw [hks,uH,bG];exact .inl h)
   rw [bJ.upds_out hm,bJ.upds_out Nu,bJ.upds_out (fun h=>Nu (bJ.zip_mem h)),bJ.upds_out (fun h=>Nu (bJ.zip_mem h))];have hku:=aT.kill i bn hw t hm;have tK:=agP (r:=r) (L:=L) (t:=t) r.n (eX _);rcases FC t with h2|⟨h2,h3⟩
   ·exact .inl h2
   ·rcases tK with h4|h4|⟨j,hj,J7,h4⟩
    ·exact .inl h4
    ·right;refine ⟨?_,h3⟩;rw [<-h2,h4,hku.1]
    ·right;refine ⟨?_,h3⟩;have ik:j≠i:=fun he=>by rw [he,hi] at J7;cases J7
     have hbf:r.bef i j=false:=by
      cases hb:r.bef i j with
      | false=>rfl
      | true=>rw [h_ i j hb J7] at hi;cases hi
     rw [<-h2,hku.2 j hj ik hbf _ h4]
end
end Go.Fw
namespace Go.Fw
theorem agS (S:aa Nat):meets S []=false:=by simp [meets]
theorem ayX (T:TT):T.kill [] []=T:=by
 cases T with
 | alias ag cs r sk off S=>
  have:=acQ.mens_nil cs;simp [TT.kill,agS,this]
 | ptr r sk off S=>simp [TT.kill,agS]
 | val=>simp [TT.kill,Kl]
 | box=>simp [TT.kill,Kl]
 | tup=>simp [TT.kill,Kl]
 | dead=>simp [TT.kill]
section
variable {P:aS} {ac:Nat->Nat->aj} {κ0 κ:aQ} {w0 w:aA} {N:Nat} {tg:Nat->TT} {sv:Nat->AV} {tm:Nat->aj}
theorem arV {w w':aA} {S:aa Nat} {b:Nat} (hw:w'.heap=w.heap) (h:bg κ w S b):bg κ w' S b:=⟨by rw [hw];exact h.1,h.2⟩
theorem aAe (h:R ac κ0 w0 κ w N tg sv tm) {w':aA} (hh:w'.heap=w.heap) (ho:w'.os=w.os) (hu:w'.output=w.output) (ht:w'.tape=w.tape):R ac κ0 w0 κ w' N tg sv tm:=by
 have hs:∀b,Same w w' b:=fun b=>⟨fun hb=>by rw [hh];exact hb,fun o x hx=>by
  simp only [World.cell?,World.frozen?,hh] at hx ⊢
  exact ⟨hx,trivial⟩⟩
 refine uf (mods:=[]) (M:=[]) h (by simp) (fun S _ b hb=>⟨arV hh hb,hs b⟩) (fun b r q _ hb=>⟨rfl,hs b⟩) (fun r _=>.inl (ayX _).symm) (fun _ _=>rfl) (fun _ _=>rfl) (fun t ht=>by simp at ht) h.out (fun b hb=>h.col b (by rw [<-hh];exact hb)) ?_;exact ⟨by rw [hh];exact h.fr.size,fun b hb h0=>by rw [hh];exact h.fr.kept b hb h0,by rw [ho];exact h.fr.os,by rw [hu];exact h.fr.out,by rw [ht];exact h.fr.tape⟩
end
namespace bJ
variable {r:bJ}
theorem sL_congr {L L':Nat->Bool} (n:Nat) (h:∀j,j<n->L j=L' j):r.sL L n=r.sL L' n:=by
 induction n with
 | zero=>rfl
 | succ n ih=>simp only [sL];rw [ih fun j hj=>h j (by omega),h n (by omega)]
theorem dL_congr {L L':Nat->Bool} (n:Nat) (h:∀j,j<n->L j=L' j):r.dL L n=r.dL L' n:=by
 induction n with
 | zero=>rfl
 | succ n ih=>simp only [dL];rw [ih fun j hj=>h j (by omega),h n (by omega)]
theorem sL_none (n:Nat) {L:Nat->Bool} (h:∀j,j<n->L j=false):r.sL L n=r.s0:=by
 induction n with
 | zero=>rfl
 | succ n ih=>simp only [sL];rw [h n (by omega),if_neg (by simp)];exact ih fun j hj=>h j (by omega)
theorem dL_none (n:Nat) {L:Nat->Bool} (h:∀j,j<n->L j=false):r.dL L n=r.D0:=by
 induction n with
 | zero=>rfl
 | succ n ih=>simp only [dL];rw [h n (by omega),if_neg (by simp)];exact ih fun j hj=>h j (by omega)
theorem ins_lt (k:Nat):ins (lt k) k=lt (k+1):=by
 funext j;simp only [ins,lt];by_cases h:j=k
 ·subst h;simp
 ·have:(j == k)=false:=by simpa using h
  rw [this,wD];congr 1;simp only [eq_iff_iff];omega
end bJ
section
variable {P:aS} {ac:Nat->Nat->aj} {κ0:aQ} {w0:aA} {N:Nat} {ops:Array bP} {St:Nat->Stp} {r:bJ} {Q:Exit->Act->aA->Prop}
theorem RInv.congr {L L':Nat->Bool} {a:Act} {w:aA} (h:RInv ac κ0 w0 N r L a w) (hL:∀j,j<r.n->L j=L' j):RInv ac κ0 w0 N r L' a w:=by
 refine ⟨?_,h.size,h.defers,h.par,fun j t hj hl hw hd ho=>h.und j t hj (by rw [hL j hj];exact hl) hw hd ho⟩;rw [<-bJ.dL_congr (r:=r) r.n hL,<-bJ.sL_congr (r:=r) r.n hL];exact h.st
theorem agU (aT:RI P N ops St r) (hQ:∀a w,RInv ac κ0 w0 N r (bJ.lt r.n) a w->Q .normal a w) :
  ∀(m k:Nat) (a:Act) (w:aA),k+m=r.n->RInv ac κ0 w0 N r (bJ.lt k) a w->wpOps P ops Q (List.range' k m) a w
 | 0,k,a,w,hk,h=>by
  simp only [List.range',wpOps];exact hQ a w (by rw [show r.n=k from by omega];exact h)
 | m+1,k,a,w,hk,h=>by
  rw [List.range'_succ,wpOps_cons];refine agR aT h (i:=k) (by omega) (by simp [bJ.lt]) (fun j k' hb hl => ?_) (fun j hb => ?_) _ fun a' w' h' => ?_
  ·have:=aT.lt j k' hb;simp only [bJ.lt,decide_eq_true_eq] at hl ⊢;omega
  ·have:=aT.lt j k hb;simp only [bJ.lt,decide_eq_true_eq];omega
  ·rw [bJ.ins_lt] at h';exact agU aT hQ m (k+1) a' w' (by omega) h'
end
end Go.Fw
namespace Go.Fw
def af8 (o:bP):Bool:=match o.op with
 | .extract (.tmp _) _=>true
 | .move _=>true
 | _=>false
theorem afD {P:aS} {ops:Array bP} {i:Nat} {o:bP} {a:Act} {w:aA} {K:Act->aA->Prop} (hi:ops[i]?=some o) (hx:af8 o=true) (hg:o.guard=none)
  (h:wpOp P ops (fun _ _ _=>False) i K a w):∃v,Yields P ops o v a/\K (a.put o.dst v) w:=by
 have hwt:Region.wanted o (yielded ops a.tmps)=true:=by simp [Region.wanted,hg]
 unfold wpOp at h;simp only [hi,hwt,if_true] at h;have h:o.wp P a w K (fun _ _ _=>False):=by
  rcases h with h|⟨_,_,_,h⟩
  ·exact h
  ·exact h.elim
 unfold af8 at hx;split at hx;case h_3=>cases hx
 case h_2 x lI=>
  have hr:∀w,(execOp a.eval o).run P w = .ok (.value (a.eval x)) w:=by
   intro w;unfold execOp;rw [lI];rfl
  unfold Oper.wp at h;rw [hr w] at h;exact ⟨_,.inl ⟨hwt,hr⟩,h⟩
 case h_1 t n lI=>
 have pu:execOp a.eval o=(do pure (Next.value (<-Instr.extract (a.eval (.tmp t)) n)):Sem Next):=by
  unfold execOp;rw [lI]
 unfold Oper.wp at h;rw [pu] at h;cases hv:a.eval (.tmp t) with
 | tuple xs=>
  cases hn:xs[n]? with
  | some v=>
   have hr:∀w,(execOp a.eval o).run P w = .ok (.value v) w:=by
    intro w;rw [pu,hv];refine dG ?_;unfold Instr.extract;simp only [hn];rfl
   have h2:=hr w;rw [pu] at h2;rw [h2] at h;exact ⟨v,.inl ⟨hwt,hr⟩,h⟩
  | none=>
   rw [hv] at h;unfold Instr.extract at h;simp only [hn] at h;exact h.elim
 | _=>
  rw [hv] at h;exact h.elim
section
variable {P:aS} {ac:Nat->Nat->aj} {κ0:aQ} {w0:aA} {N:Nat} {ops:Array bP} {St:Nat->Stp} {r:bJ} {Q:Exit->Act->aA->Prop}
theorem avD (aT:RI P N ops St r) (eg:Nat->Bool)
  (hbd:∀i o j,ops[i]?=some o->r.bef j i=true->(∃e,e∈o.after/\Region.binds .any e=true/\(e.on=j\/r.bef j e.on=true)) \/
   (j<i/\eg j=true/\∀oj,ops[j]?=some oj->∀e,e∈oj.after->Region.binds .any e=true->∃e',e'∈o.after/\Region.binds .any e'=true/\(e'.on=e.on\/r.bef e.on e'.on=true)))
  (hae:∀i o e,ops[i]?=some o->e∈o.after->Region.binds .any e=true->e.on<i)
  (heg:∀i o,ops[i]?=some o->eg i=true->af8 o=true/\o.guard=none/\∀j oj,ops[j]?=some oj->j≠i->(∀e∈oj.after,Region.binds .any e=true->e.on≠i)->(∀e∈o.after,Region.binds .any e=true->e.on≠j)->o.apart ops oj=true)
  (Xr:∀(j:Nat) (o:bP) cs b,ops[j]?=some o->o.op≠.select cs b)
  (aFA:∀c a w,¬Q (.panic c) a w) (hQ:∀a w,RInv ac κ0 w0 N r (bJ.lt r.n) a w->Q .normal a w) :
  ∀(fuel:Nat) (listed:Array Bool) (a:Act) (w:aA),listed.size=ops.size->(∀j k,r.bef j k=true->listed.getD k false=true->listed.getD j false=true) ->
   ((List.range ops.size).filter fun j=>!listed.getD j false).length<=fuel->RInv ac κ0 w0 N r (fun j=>listed.getD j false) a w->wpAny P .any ops Q fuel listed a w:=by
 have done:∀(listed:Array Bool) (a:Act) (w:aA),listed.size=ops.size->Region.ready .any ops listed=[]->RInv ac κ0 w0 N r (fun j=>listed.getD j false) a w->Q .normal a w:=by
  intro listed a w dF mr h;have all:∀j,j<ops.size->listed.getD j false=true:=by
   intro j;induction j using Nat.strongRecOn with
   | ind j ih=>
    intro hj;cases hl:listed.getD j false with
    | true=>rfl
    | false=>
     exfalso;have:j∈Region.ready .any ops listed:=by
      rw [mem_ready];refine ⟨?_,ops[j],by simp [hj],fun e he hb => ?_⟩
      ·simp only [rD] at hl ⊢;rw [VK (by omega)] at hl ⊢;simpa using hl
      ·have bR:=hae j _ e (by simp [hj]) he hb;exact ih e.on bR (by omega)
     rw [mr] at this;simp at this
  refine hQ a w (h.congr fun j hj => ?_);rw [all j (by rw [<-aT.n];exact hj)];simp [bJ.lt,hj]
 intro fuel;induction fuel with
 | zero=>
  intro listed a w dF h_ hf h;have mr:Region.ready .any ops listed=[]:=by
   rw [List.eq_nil_iff_forall_not_mem];intro i hi;rw [mem_ready] at hi;obtain ⟨h1,o,h2,_⟩:=hi;have bn:i<ops.size:=(aot.1 h2).1;have h3:i∈(List.range ops.size).filter fun j=>!listed.getD j false:=by
    rw [jK,iY];refine ⟨bn,?_⟩;simp only [rD] at h1 ⊢;rw [VK (by omega)] at h1 ⊢;simpa using h1
   have h4:=qL.1 (Nat.le_zero.1 hf);rw [h4] at h3;simp at h3
  exact ⟨mr,done listed a w dF mr h⟩
 | succ fuel ih=>
  intro listed a w dF h_ hf h
  -- one that is ready,ahead of which stand only such as are done
  have go:∀i,i∈Region.ready .any ops listed->(∀j,r.bef j i=true->listed.getD j false=true)->∀(Q':Exit->Act->aA->Prop),wpOp P ops Q' i (wpAny P .any ops Q fuel (listed.setIfInBounds i true)) a w:=by
   intro i hi gK Q';rw [mem_ready] at hi;obtain ⟨h1,o,h2,h3⟩:=hi;have bn:i<ops.size:=(aot.1 h2).1;have hli:listed.getD i false=false:=by
    simp only [rD] at h1 ⊢;rw [VK (by omega)] at h1 ⊢;simpa using h1
   refine agR aT h (by rw [aT.n];exact bn) hli h_ gK _ fun a' w' h' => ?_
   have I1:∀j,(listed.setIfInBounds i true).getD j false=(j == i || listed.getD j false):=by
    intro j;simp only [rD,abA];by_cases ik:i=j
    ·subst ik;simp [show i<listed.size by omega]
    ·have:(j == i)=false:=by simpa using mH ik
     simp [ik,this]
   refine ih _ a' w' (by simpa using dF) (fun j k hb hl => ?_) ?_ (h'.congr fun j _=>by rw [I1 j];rfl)
   ·rw [I1] at hl ⊢;simp only [iT,beq_iff_eq] at hl ⊢;rcases hl with rfl|hl
    ·exact .inr (gK j hb)
    ·exact .inr (h_ j k hb hl)
   ·have gM:((List.range ops.size).filter fun j=>!(listed.setIfInBounds i true).getD j false).length<((List.range ops.size).filter fun j=>!listed.getD j false).length:=by
     have h4:((List.range ops.size).filter fun j=>!(listed.setIfInBounds i true).getD j false)=((List.range ops.size).filter fun j=>!listed.getD j false).filter fun j=>!(j == i):=by
      rw [List.filter_filter];congr 1;funext j;rw [I1];cases (j == i)<;>simp
     rw [h4];refine List.length_filter_lt_length_iff_exists.2 ⟨i,?_,by simp⟩;rw [jK,iY];exact ⟨bn,by rw [hli];rfl⟩
    omega
  -- of two of them the first is there,or can be done
  have pair:∀i o j,ops[i]?=some o->i∈Region.ready .any ops listed->j<i->(∀oj,ops[j]?=some oj->∀e,e∈oj.after->Region.binds .any e=true->∃e',e'∈o.after/\Region.binds .any e'=true/\(e'.on=e.on\/r.bef e.on e'.on=true)) ->
    listed.getD j false=false->j∈Region.ready .any ops listed:=by
   intro i o j h2 hi ik hde hl;obtain ⟨h1,o',Bq,h3⟩:=mem_ready.1 hi;rw [h2] at Bq;cases Bq;have tV:j<ops.size:=by
    have:=(aot.1 h2).1;omega
   rw [mem_ready];refine ⟨?_,ops[j],by simp [tV],fun e he b_ => ?_⟩
   ·simp only [rD] at hl ⊢;rw [VK (by omega)] at hl ⊢;simpa using hl
   ·obtain ⟨e',h4,h5,h6⟩:=hde _ (by simp [tV]) e he b_;have:=h3 e' h4 h5;rcases h6 with h6|h6
    ·rw [<-h6];exact this
    ·exact h_ _ _ h6 this
  by_cases hE:∃i,i∈Region.ready .any ops listed/\eg i=true
  ·-- the first of them
   have acN:∀n,(∃i,i<n/\i∈Region.ready .any ops listed/\eg i=true)->∃i,(i∈Region.ready .any ops listed/\eg i=true)/\∀j,j<i->¬(j∈Region.ready .any ops listed/\eg j=true):=by
    intro n;induction n with
    | zero=>rintro ⟨i,h,_⟩;omega
    | succ n ihn=>
     rintro ⟨i,bR,h1⟩;by_cases pu:∃i,i<n/\i∈Region.ready .any ops listed/\eg i=true
     ·exact ihn pu
     ·have:i=n:=by
       by_cases bn:i<n
       ·exact absurd ⟨i,bn,h1⟩ pu
       ·omega
      subst this;exact ⟨i,h1,fun j hj hc=>pu ⟨j,hj,hc⟩⟩
   obtain ⟨i0,hi0⟩:=hE;obtain ⟨i,⟨hi,hgi⟩,hm⟩:=acN (i0+1) ⟨i0,by omega,hi0⟩;obtain ⟨h1,o,h2,h3⟩:=mem_ready.1 hi;obtain ⟨hx,G9,hap⟩:=heg i o h2 hgi;have gK:∀j,r.bef j i=true->listed.getD j false=true:=by
    intro j hb;rcases hbd i o j h2 hb with ⟨e,he,hbi,VF⟩|⟨ik,hgj,hde⟩
    ·have hl:=h3 e he hbi;rcases VF with rfl|VF
     ·exact hl
     ·exact h_ j e.on VF hl
    ·cases hl:listed.getD j false with
     | true=>rfl
     | false=>exact absurd ⟨pair i o j h2 hi ik hde hl,hgj⟩ (hm j ik)
   obtain ⟨v,hy,hk⟩:=afD h2 hx G9 (go i hi gK _);exact wpAny_first h2 Xr (fun c a w h=>absurd h (aFA c _ _)) fuel listed a w (fun j oj hj aX hun eD=>hap j oj hj aX eD fun e he b_ ry=>by
    have:=h3 e he b_
    rw [ry] at this
    rcases Nat.lt_or_ge j listed.size with h'|h'
    ·simp [h'] at this hun;rw [hun] at this;cases this
    ·simp [af4 h'] at this) hi hy hk
  ·refine ⟨fun mr=>done listed a w dF mr h,fun i hi => ?_⟩;obtain ⟨h1,o,h2,h3⟩:=mem_ready.1 hi;refine go i hi (fun j hb => ?_) _;rcases hbd i o j h2 hb with ⟨e,he,hbi,VF⟩|⟨ik,hgj,hde⟩
   ·have hl:=h3 e he hbi;rcases VF with rfl|VF
    ·exact hl
    ·exact h_ j e.on VF hl
   ·cases hl:listed.getD j false with
    | true=>rfl
    | false=>exact absurd ⟨j,pair i o j h2 hi ik hde hl,hgj⟩ hE
end
end Go.Fw
namespace Go.Fw
def Eff.pre (f:(Nat->AV)->ah (Nat->AV)):Eff->Eff
 | .det h=>.det fun s=>match f s with
  | some s1=>h s1
  | none=>none
 | .call K sg args post=>.call K sg (fun s=>match f s with
  | some s1=>args s1
  | none=>none) fun res outs s=>match f s with
  | some s1=>post res outs s1
  | none=>none
def RJ (t:Nat) (s:Nat->AV):ah (Nat->AV):=
 match iO t s with
 | some as=>some (upd s t (.v as []))
 | none=>none
theorem Eff.pre_rel {P:aS} {f:(Nat->AV)->ah (Nat->AV)} {E:Eff} {s:Nat->AV} {v:aa AV} (h:(E.pre f).rel P s v):∃s1,f s=some s1/\E.rel P s1 v:=by
 cases E with
 | det h0=>
  simp only [Eff.pre,Eff.rel] at h;split at h
  ·rename_i s1 hs;exact ⟨s1,hs,h⟩
  ·cases h
 | call K sg args post=>
  simp only [Eff.pre,Eff.rel] at h;obtain ⟨as,res,outs,h1,h2,h3⟩:=h;split at h1
  ·rename_i s1 hs;rw [hs] at h3;exact ⟨s1,hs,as,res,outs,h1,h2,h3⟩
  ·cases h1
def Stp.take (t:Nat) (S1 S2:Stp):Stp:=⟨S2.up++S1.up.map (fun p=>(p.1,S2.kl p.2)),fun T=>S2.kl (S1.kl T),t::S2.rd,S2.eff.pre (RJ t)⟩
def Bt (g:Nat->TT) (S:Stp):Nat->TT:=aG (fun t=>S.kl (g t)) S.up
theorem ayY {P:aS} {N:Nat} {g:Nat->TT} {o:bP} {t:Nat} {S1 S2:Stp} (h1:vT N g t=some S1) (hk:S1.kl .dead = .dead) (hk2:S2.kl .dead = .dead) (h2:ek P N o (Bt g S1) S2) (ht:t∈S2.up.map (·.1)) (hv:∀s v,S2.eff.rel P s v->v.length<=S2.up.length)  :
  ek P N o g (Stp.take t S1 S2):=by
 intro ac κ0 κ w0 w tg sv s a v next Q hN hR hL hv0 bU;simp only [Stp.take] at hv0;obtain ⟨s1,mY,pX⟩:=Eff.pre_rel hv0;simp only [RJ] at mY;split at mY;case h_2=>cases mY
 case h_1 as jU=>
 cases mY;have mX:∃T1 r T2,S1.up=[(t,T1),(r,T2)]/\t≠r/\S1.eff = .det (iH t)/\g r≠.dead/\g t≠.dead:=by
  unfold vT at h1;split at h1;case h_2=>cases h1
  case h_1 ag cs0 r off S0 hT=>
  split at h1
  ·rename_i gg cs hr;split at h1
   ·rename_i hc;cases h1;exact ⟨_,r,_,rfl,hc.2.2.1,rfl,by rw [hr];simp,by rw [hT];simp⟩
   ·cases h1
  ·rename_i cs hr;split at h1
   ·rename_i hc;cases h1;exact ⟨_,r,_,rfl,hc.2.2.1,rfl,by rw [hr];simp,by rw [hT];simp⟩
   ·cases h1
  ·cases h1
 obtain ⟨T1,r,T2,mX,GZ,aFB,gZ,Np⟩:=mX;have hps:=aoL (P:=P) h1;obtain ⟨κ',tg',sv',jk,aCn,aCo⟩:=hps ac κ0 κ w0 w tg sv s (gm a) [.v as []] hR hL (by rw [aFB];simp [Eff.rel,iH,jU]);have hL':Le (Bt g S1) (upd s t (.v as [])) tg' sv':=by
  intro u;rw [aCn u,aCo u];simp only [Bt,mX,aG,bv,bI,Rn,List.zip_nil_right,upd];by_cases Fv:u=t
  ·simp [Fv]
  ·simp only [if_neg Fv];by_cases G5:u=r
   ·subst G5;simp only [if_true];right;refine ⟨trivial,?_⟩;rcases hL u with h3|h3
    ·exact absurd h3 gZ
    ·exact h3.2
   ·simp only [if_neg G5];rcases hL u with h3|⟨h3,h4⟩
    ·left;rw [h3,hk]
    ·right;exact ⟨by rw [h3],h4⟩
 refine h2 ac κ0 κ' w0 w tg' sv' _ a v next Q hN jk hL' pX fun x w' κ'' tg'' sv'' akh abt abu => ?_
 have Cb:=hv _ _ pX;refine bU x w' κ'' tg'' sv'' akh (fun u => ?_) (fun u => ?_)
 ·rw [abt u];simp only [Stp.take];rw [Dr];by_cases hu:u∈S2.up.map (·.1)
  ·exact bJ.upds_in hu
  ·rw [bJ.upds_out hu,bJ.upds_out hu,aCn u,mX];simp only [aG,bv,bI];split
   ·rfl
   ·split<;>rfl
 ·rw [abu u];simp only [Stp.take];have hz:((S2.up++S1.up.map fun p=>(p.1,S2.kl p.2)).map (·.1)).zip v=(S2.up.map (·.1)).zip v:=by
   rw [uH];exact Je (by simpa using Cb)
  rw [hz];by_cases hu:u∈((S2.up.map (·.1)).zip v).map (·.1)
  ·exact bJ.upds_in hu
  ·rw [bJ.upds_out hu,bJ.upds_out hu,aCo u,mX];simp only [aG,bv,bI,Rn,List.zip_nil_right];split
   ·rename_i Fv;subst Fv;have Bp:∃ag cs0 r off S0,g u = .alias ag cs0 r [] off S0:=by
     unfold vT at h1;split at h1
     ·rename_i ag cs0 r off S0 hT;exact ⟨_,_,_,_,_,hT⟩
     ·cases h1
    obtain ⟨ag,cs0,r',off,S0,hT⟩:=Bp;obtain ⟨e1,e2⟩:=hL.at hT (by simp);have h5:=hR.tr u;rw [e1] at h5;simp only [TR] at h5;obtain ⟨as',is,vs,gf,ra,row,k1,_,_,_,_,k5,_⟩:=h5;have pg:is=[]:=by
     cases is with
     | nil=>rfl
     | cons=>simp [f_] at k5
    subst pg;rw [k1];obtain ⟨is2,Fy⟩:=cO jU;rw [e2,Fy] at k1;cases k1;rfl
   ·rfl
end Go.Fw
namespace Go.Fw
def woff:aa (Bool × Nat)->Nat->Nat
 | [],_=>0
 | _,0=>0
 | (_,n)::ws,i+1=>n+woff ws i
theorem NL:∀{ws:aa (Bool × Nat)} {xs vs:aa aj} {i:Nat} {ag:Bool} {n:Nat},uJ ws xs=some vs->ws[i]?=some (ag,n) ->
  ∃x,xs[i]?=some x/\cellsOf ag x=some ((vs.drop (woff ws i)).take n)/\woff ws i+n<=vs.length
 | [],_,_,_,_,_,_,h=>by simp at h
 | _::_,[],_,_,_,_,h,_=>by simp [uJ] at h
 | (g,m)::ws,x::xs,vs,i,ag,n,h,hw=>by
  simp only [uJ] at h;split at h;case h_2=>cases h
  case h_1 a b ha hb=>
  split at h;case isFalse=>cases h
  case isTrue hm=>
  cases h;cases i with
  | zero=>
   simp at hw;obtain ⟨rfl,rfl⟩:=hw;refine ⟨x,by simp,?_,?_⟩
   ·simp only [woff,uI];rw [<-hm,List.take_left];exact ha
   ·simp [woff,hm]
  | succ i=>
   obtain ⟨y,h1,h2,h3⟩:=NL hb (by simpa using hw);refine ⟨y,by simpa using h1,?_,?_⟩
   ·simp only [woff];rw [<-hm,<-List.drop_drop,List.drop_left];exact h2
   ·simp only [woff,dP];omega
def uj (t off n:Nat) (s:Nat->AV):ah (aa AV):=(iO t s).map fun as=>[.v ((as.drop off).take n) []]
def agV (N:Nat) (g:Nat->TT) (o:bP):ah Stp:=
 match o.dst,o.op with
 | some d,.extract (.tmp t) i=>match g t with
  | .tup ws cs=>match ws[i]? with
   | some (ag,n)=>if d<N/\t<N/\d≠t/\CT.mens [t] cs=false/\woff ws i+n<=cs.length/\iD ((cs.drop (woff ws i)).take n)=true then
     some ⟨[(d,.val ag ((cs.drop (woff ws i)).take n)),(t,.tup ws (kT (woff ws i) n cs))],fun T=>T.kill [d,t] [t],[t],.det (uj t (woff ws i) n)⟩ else none
   | none=>none
  | _=>none
 | _,_=>none
theorem arW {P:aS} {N:Nat} {g:Nat->TT} {o:bP} {S:Stp} (h:agV N g o=some S):ek P N o g S:=by
 unfold agV at h;split at h;case h_2=>cases h
 case h_1 d t i hd ho=>
 split at h;case h_2=>cases h
 case h_1 ws cs hT=>
 split at h;case h_2=>cases h
 case h_1 ag n hw=>
 split at h;case isFalse=>cases h
 case isTrue hc=>
 obtain ⟨hdN,lG,yI,hm,hn,ji⟩:=hc;cases h;intro ac κ0 κ w0 w tg sv s a v next Q hN hR hL hv bU;simp only [Eff.rel,uj,dh] at hv;obtain ⟨as,hg,rfl⟩:=hv;obtain ⟨e1,e2⟩:=hL.at hT (by simp);have h1:=hR.tr t;rw [e1] at h1;simp only [TR] at h1;obtain ⟨as',xs,vs,g1,g2,g3,g4,g5⟩:=h1;obtain ⟨is,hs⟩:=cO hg;rw [e2,hs] at g1;cases g1;obtain ⟨x,hx,hcx,_⟩:=NL g3 hw;have jk:=arF hR hdN lG yI e1 hm hn (g:=ag) (x:=x) (as:=as) (by rw [e2,hs]) ji (fun xs' vs' k1 k2=>by
  rw [g2] at k1;cases k1
  rw [g3] at k2;cases k2
  exact hcx)
 refine Km (w':=w) (x:=x) ?_ (bU x w _ _ _ (by rw [hd,p8 (a:=a) (by rw [hN];exact hdN)];exact jk) (fun u => ?_) (fun u => ?_))
 ·unfold execOp;rw [ho];simp only;refine dG ?_;have kr:a.eval (.tmp t)=gm a t:=rfl;rw [kr,g2];unfold Instr.extract;simp only;have Ca:xs[i]?=some x:=by simpa using hx
  rw [Ca];rfl
 ·simp only [aG,upd]
 ·simp [aG,upd]
end Go.Fw
namespace Go.Fw
theorem VY {κ:aQ} {w:aA} {e:aa CT} {p:Pl} {get:Nat->aj}:∀{l j:Nat} {xs:aa (aa A)},dz κ w e p j get xs->dz κ w e p (j+l*e.length) get (xs.drop l)
 | 0,j,xs,h=>by simpa using h
 | l+1,j,[],h=>by simp [dz]
 | l+1,j,x::xs,h=>by
  simp only [dz] at h;have:=VY (l:=l) h.2;rw [show j+e.length+l*e.length=j+(l+1)*e.length from by rw [eu];omega] at this;simpa using this
theorem Kt {κ:aQ} {w:aA} {e:aa CT} {p:Pl} {get:Nat->aj}:∀{l j:Nat} {xs:aa (aa A)},dz κ w e p j get xs->dz κ w e p j get (xs.take l)
 | 0,j,xs,h=>by simp [dz]
 | l+1,j,[],h=>by simp [dz]
 | l+1,j,x::xs,h=>by
  simp only [dz] at h;simp only [zV,dz];exact ⟨h.1,Kt h.2⟩
theorem NM {κ:aQ} {w:aA} {e:aa CT} {p p':Pl} (hn:CT.nowns e=true):∀{xs:aa (aa A)} {j j':Nat} {get get':Nat->aj},(∀i,i<xs.length*e.length->get' (j'+i)=get (j+i)) ->
  dz κ w e p j get xs->dz κ w e p' j' get' xs
 | [],_,_,_,_,_,_=>by simp [dz]
 | x::xs,j,j',get,get',hg,h=>by
  simp only [dz] at h ⊢;simp only [bF,eu,Aw] at hg;refine ⟨jL (P:=fun _=>True) (fun S _ b hb=>⟨hb,Same.refl w b⟩) hn (iC (fun _=>trivial) e) (fun i hi=>hg i (by omega)) h.1,NM hn (fun i hi => ?_) h.2⟩;have:=hg (e.length+i) (by omega);rw [show j'+e.length+i=j'+(e.length+i) from by omega,show j+e.length+i=j+(e.length+i) from by omega];exact this
theorem arX {κ:aQ} {w:aA} {S:aa Nat} {e:aa CT} {p:Pl} {ao:ah Addr} {n cap l h:Nat} {xs:aa (aa A)} (aX:CT.nowns e=true) (hr:RC κ w (.sl (.ro S) e) p (.slice ao n cap) (.s xs)) (h1:l<=h) (h2:h<=xs.length) :
  n=xs.length/\h<=cap/\RC κ w (.sl (.ro S) e) p (.slice (if cap=l then ao else ao.map (·.add (l*e.length))) (h-l:Nat) (cap-l)) (.s ((xs.drop l).take (h-l))):=by
 simp only [RC] at hr;obtain ⟨ao',cap',hx,cZ,hc⟩:=hr;cases hx;have bN:((xs.drop l).take (h-l)).length=h-l:=by simp;omega
 refine ⟨rfl,by omega,?_⟩;simp only [RC,bN];refine ⟨_,_,rfl,by omega,?_⟩;rcases hc with rfl|⟨b,o,rfl,hb,hrd,he⟩
 ·left;simp
 ·by_cases hz:h-l=0
  ·left;rw [hz];simp
  ·right;have jX:cap≠l:=by omega
   rw [if_neg jX];refine ⟨b,o+l*e.length,by simp only [dx];rw [yP],hb,fun q q1 q2=>hrd q (by omega) ?_,?_⟩
   ·have h3:l*e.length+(h-l)*e.length=h*e.length:=by rw [<-eu];congr 1;omega
    have h4:h*e.length<=xs.length*e.length:=jE _ h2;omega
   ·have h5:=Kt (l:=h-l) (VY (l:=l) he);rw [dE] at h5;refine NM aX (fun i _ => ?_) h5;show cellD w b _=cellD w b _;congr 1;omega
theorem ada {ac:Nat->Nat->aj} {κ0 κ:aQ} {w0 w:aA} {N:Nat} {tg:Nat->TT} {sv:Nat->AV} {tm:Nat->aj} (h:R ac κ0 w0 κ w N tg sv tm) {d:Nat} (hd:d<N) {S:aa Nat} {e:aa CT} {p:Pl} {x:aj} {xs:aa (aa A)}
  (aX:CT.nowns e=true) (hr:RC κ w (.sl (.ro S) e) p x (.s xs)) :
  R ac κ0 w0 (bf κ (iN d) none) w N (kv tg d (.val false [.sl (.ro S) e])) (upd sv d (.v [.s xs] [])) (upd tm d x):=by
 refine nO h hd (Grows.refl w) (fun _ _ h=>by cases h) ?_;have hx:cellsOf false x=some [x]:=by
  simp only [RC] at hr;obtain ⟨ao,cap,rfl,_⟩:=hr;rfl
 have jX:=fun S b hb=>mK (κ:=κ) (w:=w) (w':=w) (d:=d) (nb:=none) (Grows.refl w) (fun _ _ h=>by cases h) S b hb
 simp only [TR,bS];refine ⟨_,[x],rfl,hx,rfl,fun k j c e' hc => ?_,?_⟩
 ·cases k<;>simp at hc
 ·simp only [aB];exact ⟨abG (P:=fun _=>True) (fun S _ b hb=>jX S b hb) (by simpa [CT.nown] using aX) (acU (fun _=>trivial) _) hr,trivial⟩
def AJ (s:Nat->AV) (dflt:Nat):ah DX->ah Nat
 | none=>some dflt
 | some X=>match X.get s with
  | some v=>toN v
  | none=>none
def Ht (g:Nat->TT):ah iL->ah (ah DX)
 | none=>some none
 | some x=>(nR g x).map some
def AL (t:Nat) (lo hi:ah DX) (s:Nat->AV):ah (aa AV):=
 match uX t s with
 | some (xs,_)=>match AJ s 0 lo,AJ s xs.length hi with
  | some l,some h=>if l<=h/\h<=xs.length then some [.v [.s ((xs.drop l).take (h-l))] []] else none
  | _,_=>none
 | none=>none
def agW (P:aS) (N:Nat) (g:Nat->TT) (o:bP):ah Stp:=
 match o.dst,o.op with
 | some d,.slice ty (.tmp t) lo hi none=>match P.underlying ty,rM P g ty 0 (.tmp t),Ht g lo,Ht g hi with
  | some (.slice et),some X,some L,some H=>match P.info? et,X.ag,X.cs with
   | some i,false,[.sl m e]=>
    let S:=t::CT.srcss X.cs
    if d<N/\CT.lives X.cs=true/\i.size=e.length then
     some (Stp.set d (.val false [.sl (.ro S) (CT.roizes S e)]) [t] (.det (AL t L H)))
    else none
   | _,_,_=>none
  | _,_,_,_=>none
 | _,_=>none
theorem yX {ac:Nat->Nat->aj} {κ0 κ:aQ} {w0 w:aA} {N:Nat} {tg g:Nat->TT} {sv s:Nat->AV} {a:Act} (hR:R ac κ0 w0 κ w N tg sv (gm a)) (hL:Le g s tg sv) {x:ah iL} {X:ah DX} (hx:Ht g x=some X) {n l:Nat}
  (hb:AJ s n X=some l):(x.map a.eval=none/\l=n)\/∃k,x.map a.eval=some (.int k (l:Int)):=by
 cases x with
 | none=>simp only [Ht,aN] at hx;subst hx;simp only [AJ,aN] at hb;exact .inl ⟨rfl,hb.symm⟩
 | some x=>
  simp only [Ht,dh] at hx;obtain ⟨Y,hY,rfl⟩:=hx;simp only [AJ] at hb;split at hb
  ·rename_i v hv;obtain ⟨k,m,rfl,h0,rfl⟩:=VR hb;obtain ⟨e1,_⟩:=uW hR hL hY hv;exact .inr ⟨k,by simp [e1,jF h0]⟩
  ·cases hb
theorem arY {P:aS} {N:Nat} {g:Nat->TT} {o:bP} {S:Stp} (h:agW P N g o=some S):ek P N o g S:=by
 unfold agW at h;split at h;case h_2=>cases h
 case h_1 d ty t lo hi hd ho=>
 split at h;case h_2=>cases h
 case h_1 et X L H hty hX G_ hHi=>
 split at h;case h_2=>cases h
 case h_1 i m e jv Nr qi=>
 simp only at h;split at h;case isFalse=>cases h
 case isTrue hc=>
 obtain ⟨hdN,lJ,dF⟩:=hc;cases h;intro ac κ0 κ w0 w tg sv s a v next Q hN hR hL hv bU;simp only [Stp.set,Eff.rel,AL] at hv;split at hv;case h_2=>cases hv
 case h_1 xs is Bo=>
 split at hv;case h_2=>cases hv
 case h_1 l h hl hh=>
 split at hv;case isFalse=>cases hv
 case isTrue hb=>
 cases hv;have gP:=vS Bo;have hXt:X.t=t/\X.get=iO t:=by
  simp only [rM] at hX;split at hX
  ·cases hX;exact ⟨rfl,rfl⟩
  ·split at hX
   ·cases hX;exact ⟨rfl,rfl⟩
   ·cases hX
  ·cases hX
 obtain ⟨vs,k1,k2,k3,_⟩:=rO hR hL hX (as:=[.s xs]) (by rw [hXt.2];unfold iO;rw [gP]);rw [Nr] at k1;have mq:=jW k1;subst mq;rw [hXt.1] at k3;have k4:=Ru (S:=t::CT.srcss X.cs) (p':=(d,[])) (j':=0) (get':=fun k=>[a.eval (.tmp t)].getD k undef) lJ (by simp) (kG fun r hr=>by simp [hr]) (fun _ _=>rfl) k3;rw [qi] at k4 lJ;simp only [CT.roizes,CT.roize,aB] at k4;obtain ⟨k5,_⟩:=k4;have k5':RC κ w (.sl (.ro (t::CT.srcss X.cs)) (CT.roizes (t::CT.srcss X.cs) e)) (Pl.at (d,[]) 0) (a.eval (.tmp t)) (.s xs):=by
  rw [qi];simpa using k5
 obtain ⟨ao,cap,kr⟩:=Jb (by simp) k5';rw [kr] at k5';obtain ⟨_,hhc,gM⟩:=arX (oC _ e) k5' hb.1 hb.2;rw [dD] at gM;refine iU hd hN hdN (w':=w) ?_ (ada hR hdN (oC _ e) gM) bU;unfold execOp;rw [ho];simp only;refine dG ?_;rw [kr];have eO:=NB (P:=P) (t:=ty) (e:=et) (i:=i) (ao:=ao) (len:=xs.length) (cap:=cap) (lo:=lo.map a.eval) (hi:=hi.map a.eval) (l:=l) (h:=h) (w:=w) hty jv (yX hR hL G_ hl) (yX hR hL hHi hh) hb.1 hhc;rw [dF] at eO;simpa using eO
def abO (P:aS) (N:Nat) (g:Nat->TT) (fe:Bool) (o:bP):ah Stp:=
 match fe with
 | false=>none
 | true=>match o.dst,o.op with
  | some d,.slice ty (.tmp t) lo hi none=>match P.underlying ty,rM P g ty 0 (.tmp t),Ht g lo,Ht g hi with
   | some (.slice et),some X,some L,some H=>match P.info? et,X.ag,X.cs with
    | some i,false,[.sl (.ro S) e]=>
     if d<N/\CT.nowns e=true/\i.size=e.length then
      some (Stp.set d (.val false [.sl (.ro S) e]) [t] (.det (AL t L H)))
     else none
    | _,_,_=>none
   | _,_,_,_=>none
  | _,_=>none
theorem aoQ {P:aS} {N:Nat} {g:Nat->TT} {fe:Bool} {o:bP} {S:Stp} (h:abO P N g fe o=some S):ek P N o g S:=by
 unfold abO at h;split at h;case h_1=>cases h
 case h_2=>
 split at h;case h_2=>cases h
 case h_1 d ty t lo hi hd ho=>
 split at h;case h_2=>cases h
 case h_1 et X L H hty hX G_ hHi=>
 split at h;case h_2=>cases h
 case h_1 i S0 e jv Nr qi=>
 split at h;case isFalse=>cases h
 case isTrue hc=>
 obtain ⟨hdN,aX,dF⟩:=hc;cases h;intro ac κ0 κ w0 w tg sv s a v next Q hN hR hL hv bU;simp only [Stp.set,Eff.rel,AL] at hv;split at hv;case h_2=>cases hv
 case h_1 xs is Bo=>
 split at hv;case h_2=>cases hv
 case h_1 l h hl hh=>
 split at hv;case isFalse=>cases hv
 case isTrue hb=>
 cases hv;have gP:=vS Bo;have hXt:X.t=t/\X.get=iO t:=by
  simp only [rM] at hX;split at hX
  ·cases hX;exact ⟨rfl,rfl⟩
  ·split at hX
   ·cases hX;exact ⟨rfl,rfl⟩
   ·cases hX
  ·cases hX
 obtain ⟨vs,k1,k2,k3,_⟩:=rO hR hL hX (as:=[.s xs]) (by rw [hXt.2];unfold iO;rw [gP]);rw [Nr] at k1;have mq:=jW k1;subst mq;rw [hXt.1] at k3;have hn:CT.nowns X.cs=true:=by rw [qi];simpa [CT.nowns,CT.nown] using aX
 have k4:=jL (P:=fun _=>True) (κ':=κ) (w':=w) (p':=(d,[])) (j':=0) (get':=fun k=>[a.eval (.tmp t)].getD k undef) (fun S _ b hb=>⟨hb,Same.refl w b⟩) hn (iC (fun _=>trivial) X.cs) (fun _ _=>rfl) k3;rw [qi] at k4;simp only [aB] at k4;obtain ⟨k5,_⟩:=k4;have k5':RC κ w (.sl (.ro S0) e) (Pl.at (d,[]) 0) (a.eval (.tmp t)) (.s xs):=k5;obtain ⟨ao,cap,kr⟩:=Jb (by simp) k5';rw [kr] at k5';obtain ⟨_,hhc,gM⟩:=arX aX k5' hb.1 hb.2;refine iU hd hN hdN (w':=w) ?_ (ada hR hdN aX gM) bU;unfold execOp;rw [ho];simp only;refine dG ?_;rw [kr];have eO:=NB (P:=P) (t:=ty) (e:=et) (i:=i) (ao:=ao) (len:=xs.length) (cap:=cap) (lo:=lo.map a.eval) (hi:=hi.map a.eval) (l:=l) (h:=h) (w:=w) hty jv (yX hR hL G_ hl) (yX hR hL hHi hh) hb.1 hhc;rw [dF] at eO;simpa using eO
end Go.Fw
namespace Go.Fw
def mvB (t d:Nat) (p:Pl):ah Pl:=if p.1=t then some (d,p.2) else if p.1=d then none else some p
theorem ayZ {ac:Nat->Nat->aj} {κ0 κ:aQ} {w0 w:aA} {N:Nat} {tg:Nat->TT} {sv:Nat->AV} {tm:Nat->aj} (h:R ac κ0 w0 κ w N tg sv tm) {d t:Nat} (hd:d<N) (fD:t≠d) {cs:aa CT} (ht:tg t = .box cs) (hm:CT.mens [t] cs=false)
  {as:aa A} (hs:sv t = .v as []) :
  R ac κ0 w0 (bf κ (mvB t d) none) w N (upd (fun u=>if u∈[t] then .dead else (tg u).kill [d,t] [t]) d (.box cs)) (upd sv d (.v as [])) (upd tm d (tm t)):=by
 have lG:t<N:=by
  apply sM;intro cZ;have:=h.out t cZ;rw [ht] at this;cases this
 have hM:∀r q p,mvB t d (r,q)=some p->r∉[t]->p=(r,q):=by
  intro r q p hp hr;unfold mvB at hp;simp only [cK] at hr;rw [if_neg hr] at hp;split at hp
  ·cases hp
  ·cases hp;rfl
 refine abD (mods:=[d,t]) (M:=[t]) h (by have:=h.nle;simp;omega) (Grows.refl w) (fun r q hr => ?_) hM (fun _ _ h=>by cases h) (fun r hr => ?_) (fun r hr => ?_) (fun r hr => ?_) (fun u hu => ?_) (fun u hu => ?_)
 ·simp at hr;simp [mvB,hr]
 ·simp at hr;simp [upd,hr]
 ·simp at hr;simp [upd,hr]
 ·simp at hr;simp [upd,hr]
 ·by_cases hud:u=d
  ·subst hud;have h1:=h.tr t;rw [ht] at h1;simp only [TR,bS] at h1 ⊢;obtain ⟨as',b,g1,g2,g3,g4,g5,g6,g7⟩:=h1;rw [hs] at g1;cases g1;have qp:∀b q,κ b=some (t,q)->bf κ (mvB t u) none b=some (u,q):=fun b q hb=>by simp [bf,hb,mvB]
   refine ⟨as,b,rfl,g2,g3,qp b [] g4,g5,g6,?_⟩;have hs:CT.allSs (fun S=>∀m,m∈[t]->m∉S) cs:=eQ (fun S hS=>hS) hm;have:=fQ (f:=id) (κ':=bf κ (mvB t u) none) (w':=w) (p':=(u,[])) (get':=cellD w b) (fun S hS b hb=>nP (Grows.refl w) hM (fun _ _ h=>by cases h) hS b hb) hs (fun i _ b q hb=>⟨by simpa using qp b _ hb,Same.refl w b⟩) (fun _ _=>rfl) g7;rwa [iM] at this
  ·have:u=t:=by simpa [hud] using hu
   subst this;simp [upd,hud,TR]
 ·have h1:u≠d:=by omega
  have h2:u≠t:=by omega
  simp [upd,h1,h2,h.out u hu,TT.kill]
def agY (N:Nat) (g:Nat->TT) (fe:Bool) (o:bP):ah Stp:=
 if fe then match o.dst,o.op with
  | some d,.assign (.tmp t)=>match g t with
   | .box cs=>if d<N/\t≠d/\CT.mens [t] cs=false then some (Stp.mv d [t] (.box cs) [t] (.det (iH t))) else none
   | _=>none
  | _,_=>none
 else none
theorem arZ {P:aS} {N:Nat} {g:Nat->TT} {fe:Bool} {o:bP} {S:Stp} (h:agY N g fe o=some S):ek P N o g S:=by
 unfold agY at h;split at h;case isFalse=>cases h
 split at h;case h_2=>cases h
 case h_1 d t hd ho=>
 split at h;case h_2=>cases h
 case h_1 cs hT=>
 split at h;case isFalse=>cases h
 case isTrue hc=>
 cases h;intro ac κ0 κ w0 w tg sv s a v next Q hN hR hL hv bU;simp only [Stp.mv,Eff.rel,iH,dh] at hv;obtain ⟨as,hg,rfl⟩:=hv;obtain ⟨e1,e2⟩:=hL.at hT (by simp);obtain ⟨is,hs⟩:=cO hg;have h1:=hR.tr t;rw [e1] at h1;simp only [TR] at h1;obtain ⟨as',b,g1,_⟩:=h1;rw [e2,hs] at g1;cases g1;refine wN hd hN hc.1 (w':=w) (x:=gm a t) ?_ (ayZ hR hc.1 hc.2.1 e1 hc.2.2 (by rw [e2,hs])) bU;unfold execOp;rw [ho];rfl
inductive EK where
 | b
 | i
 | s
def nk:aa EK->aa aj->aa aj->ah Bool
 | [],[],[]=>some true
 | .b::ks,.bool a::xs,.bool b::ys=>(nk ks xs ys).map fun r=>(a == b)&&r
 | .i::ks,.int k a::xs,.int k' b::ys=>if k=k' then (nk ks xs ys).map fun r=>(a == b)&&r else none
 | .s::ks,.string a::xs,.string b::ys=>(nk ks xs ys).map fun r=>(a.toList == b.toList)&&r
 | _,_,_=>none
theorem FL:∀{k1 k2:aa EK} {xs ys:aa aj} {r:Bool},nk (k1++k2) xs ys=some r->∃r1 r2,nk k1 (xs.take k1.length) (ys.take k1.length)=some r1/\nk k2 (xs.drop k1.length) (ys.drop k1.length)=some r2/\r=(r1&&r2)
 | [],k2,xs,ys,r,h=>⟨true,r,by simp [nk],by simpa using h,by simp⟩
 | k::k1,k2,xs,ys,r,h=>by
  simp only [mZ] at h;unfold nk at h;split at h
  ·rename_i h1;cases h1
  ·rename_i ks a xs' b ys' h1;cases h1;simp only [dh] at h;obtain ⟨r',h2,rfl⟩:=h;obtain ⟨r1,r2,g1,g2,rfl⟩:=FL h2;refine ⟨_,r2,?_,by simpa using g2,(Bool.and_assoc _ _ _).symm⟩;simp only [bF,zV,nk,g1,dx]
  ·rename_i ks k0 a xs' k0' b ys' h1;cases h1;split at h;case isFalse=>cases h
   case isTrue hk=>
   simp only [dh] at h;obtain ⟨r',h2,rfl⟩:=h;obtain ⟨r1,r2,g1,g2,rfl⟩:=FL h2;refine ⟨_,r2,?_,by simpa using g2,(Bool.and_assoc _ _ _).symm⟩;simp only [bF,zV,nk,hk,g1,dx,if_true]
  ·rename_i ks a xs' b ys' h1;cases h1;simp only [dh] at h;obtain ⟨r',h2,rfl⟩:=h;obtain ⟨r1,r2,g1,g2,rfl⟩:=FL h2;refine ⟨_,r2,?_,by simpa using g2,(Bool.and_assoc _ _ _).symm⟩;simp only [bF,zV,nk,g1,dx]
  ·cases h
theorem al_:∀{ks:aa EK} {xs ys:aa aj} {r:Bool},nk ks xs ys=some r->xs.length=ks.length/\ys.length=ks.length:=by
 intro ks;induction ks with
 | nil=>intro xs ys r h;cases xs<;>cases ys<;>simp [nk] at h;simp
 | cons k ks ih=>
  intro xs ys r h;unfold nk at h;split at h
  ·rename_i h1;cases h1
  ·rename_i h1;cases h1;simp only [dh] at h;obtain ⟨r',h2,_⟩:=h;have:=ih h2;simp [this.1,this.2]
  ·rename_i h1;cases h1;split at h;case isFalse=>cases h
   simp only [dh] at h;obtain ⟨r',h2,_⟩:=h;have:=ih h2;simp [this.1,this.2]
  ·rename_i h1;cases h1;simp only [dh] at h;obtain ⟨r',h2,_⟩:=h;have:=ih h2;simp [this.1,this.2]
  ·cases h
def eqG (P:aS) (K:TypeId->ah (aa EK)):aa Field->Nat->ah (aa EK)
 | [],_=>some []
 | f::fs,off=>match P.info? f.type with
  | some i=>match K f.type,eqG P K fs (off+i.size) with
   | some k1, some k2 => if f.name ≠ "_" ∧ f.offset = off ∧ i.size = k1.length ∧ 0 < k1.length then some (k1 ++ k2) else none
   | _,_=>none
  | none=>none
def NN (P:aS):Nat->TypeId->ah (aa EK)
 | 0,_=>none
 | d+1,t=>match P.underlying t with
  | some .bool=>some [.b]
  | some (.int _)=>some [.i]
  | some .string=>some [.s]
  | some (.struct fs)=>if P.stoodInHeld t=false then eqG P (NN P d) fs.toList 0 else none
  | _=>none
abbrev eqF (P:Program) (d:Nat):List Field->Nat->Option (List EK):=eqG P (NN P d)
def valOf (P:aS) (t:TypeId) (xs:aa aj):aj:=
 match P.underlying t with
 | some (.struct _)=>.agg xs.toArray
 | _=>xs.getD 0 undef
section
variable {P:aS} {w:aA}
theorem ag0 {d:Nat} {t:TypeId} {i:TypeInfo} {ks:aa EK} (hi:P.info? t=some i) (hk:NN P d t=some ks) (dF:i.size=ks.length) {X:Array aj} {off:Nat} (yj:off+ks.length<=X.size) :
  (part t X off).run P w = .ok (valOf P t ((X.toList.drop off).take ks.length)) w:=by
 cases d with
 | zero=>simp [NN] at hk
 | succ d=>
  simp only [NN] at hk;unfold part valOf;have one:∀{g:Bool},wI P t=some g->g=false->ks.length=1->(∀fs,P.underlying t≠some (.struct fs))->((do if <-isAgg t then pure (.agg (X.extract off (off+(<-sizeOf t)))) else match X[off]? with
    | some v=>pure v
    | none => stuck "part: no such cell") : Sem aj).run P w = .ok (match P.underlying t with
    | some (.struct _)=>.agg ((X.toList.drop off).take ks.length).toArray
    | _=>((X.toList.drop off).take ks.length).getD 0 undef) w:=by
   intro g hg hgf hl hns;rw [aI (FK hg w)];subst hgf;simp only [iK,if_false];have bR:off<X.size:=by omega
   have h1:X[off]?=some X[off]:=by simp [bR]
   rw [h1];have h2:((X.toList.drop off).take ks.length).getD 0 undef=X[off]:=by
    rw [dw,qK (by omega),pE];simp [bR]
   rw [h2];rfl
  split at hk
  ·rename_i hu;cases hk;exact one (g:=false) (by simp [wI,hu]) rfl rfl (by simp [hu])
  ·rename_i k hu;cases hk;exact one (g:=false) (by simp [wI,hu]) rfl rfl (by simp [hu])
  ·rename_i hu;cases hk;exact one (g:=false) (by simp [wI,hu]) rfl rfl (by simp [hu])
  ·rename_i fs hu;rw [aI (FK (g:=true) (by simp [wI,hu]) w)];simp only [if_true];rw [aI (run_sizeOf hi w),hu];simp only [dF];show Result.ok (Value.agg (X.extract off (off+ks.length))) w=_;congr 2;apply Array.ext';simp [List.drop_take,Nat.add_sub_cancel_left]
  ·cases hk
theorem ay0:∀{d:Nat},(∀{t:TypeId} {ks:aa EK} {xs ys:aa aj} {r:Bool} (m:Nat),NN P d t=some ks->nk ks xs ys=some r->(Op.equalIn (m+d) t (valOf P t xs) (valOf P t ys)).run P w = .ok r w) /\
  (∀{fs:aa Field} {off:Nat} {ks:aa EK} {X Y:Array aj} {r:Bool} (m:Nat),eqF P d fs off=some ks->nk ks (X.toList.drop off) (Y.toList.drop off)=some r->(Op.eqFields (m+d) X Y fs).run P w = .ok r w):=by
 intro d;induction d with
 | zero=>
  refine ⟨fun m hk=>by simp [NN] at hk,fun {fs} => ?_⟩;induction fs with
  | nil=>
   intro off ks X Y r m hf hv;simp only [eqG,aN] at hf;subst hf;cases hx:X.toList.drop off<;>cases hy:Y.toList.drop off<;>rw [hx,hy] at hv<;>simp [nk] at hv;subst hv;rfl
  | cons f fs ih=>
   intro off ks X Y r m hf hv;simp only [eqG,NN] at hf;split at hf
   ·cases hf
   ·cases hf
 | succ d ih=>
  have hK:∀{t:TypeId} {ks:aa EK} {xs ys:aa aj} {r:Bool} (m:Nat),NN P (d+1) t=some ks->nk ks xs ys=some r->(Op.equalIn (m+(d+1)) t (valOf P t xs) (valOf P t ys)).run P w = .ok r w:=by
   intro t ks xs ys r m hk hv;simp only [NN] at hk;split at hk
   ·rename_i hu;cases hk;unfold nk at hv;split at hv
    ·rename_i h1;cases h1
    ·rename_i h1;cases h1;simp only [dh] at hv;obtain ⟨r',h2,rfl⟩:=hv;rename_i a xs b ys;cases xs<;>cases ys<;>simp [nk] at h2;subst h2;simp only [valOf,hu,uG,wE];exact run_equalIn_bool w _ t _ _ hu
    ·rename_i h1;cases h1
    ·rename_i h1;cases h1
    ·cases hv
   ·rename_i k hu;cases hk;unfold nk at hv;split at hv
    ·rename_i h1;cases h1
    ·rename_i h1;cases h1
    ·rename_i h1;cases h1;split at hv;case isFalse=>cases hv
     case isTrue hkk=>
     subst hkk;simp only [dh] at hv;obtain ⟨r',h2,rfl⟩:=hv;rename_i k0 a xs b ys;cases xs<;>cases ys<;>simp [nk] at h2;subst h2;simp only [valOf,hu,uG,wE];exact run_equalIn_int w _ t _ _ _ _ hu
    ·rename_i h1;cases h1
    ·cases hv
   ·rename_i hu;cases hk;unfold nk at hv;split at hv
    ·rename_i h1;cases h1
    ·rename_i h1;cases h1
    ·rename_i h1;cases h1
    ·rename_i h1;cases h1;simp only [dh] at hv;obtain ⟨r',h2,rfl⟩:=hv;rename_i a xs b ys;cases xs<;>cases ys<;>simp [nk] at h2;subst h2;simp only [valOf,hu,uG,wE];exact run_equalIn_string w _ t _ _ hu
    ·cases hv
   ·rename_i fs hu;split at hk;case isFalse=>cases hk
    case isTrue gP=>
    have hfo:P.fieldsOf t=fs:=by unfold Program.fieldsOf;rw [hu]
    have:=run_equalIn_struct (P:=P) w (m+d) t xs.toArray ys.toArray (by rw [hfo];exact hu) gP;simp only [valOf,hu];rw [show m+(d+1)=m+d+1 from rfl,this,hfo];exact ih.2 m hk (by simpa using hv)
   ·cases hk
  refine ⟨hK,fun {fs} => ?_⟩;induction fs with
  | nil=>
   intro off ks X Y r m hf hv;simp only [eqG,aN] at hf;subst hf;cases hx:X.toList.drop off<;>cases hy:Y.toList.drop off<;>rw [hx,hy] at hv<;>simp [nk] at hv;subst hv;rfl
  | cons f fs ihf=>
   intro off ks X Y r m hf hv;simp only [eqG] at hf;split at hf;case h_2=>cases hf
   case h_1 i hi=>
   split at hf;case h_2=>cases hf
   case h_1 k1 k2 hk1 hk2=>
   split at hf;case isFalse=>cases hf
   case isTrue hc=>
   cases hf;obtain ⟨hnm,aFC,dF,yc⟩:=hc;obtain ⟨r1,r2,g1,g2,rfl⟩:=FL hv;have hlx:=(al_ hv).1;have hly:=(al_ hv).2;simp only [sN,dP,XC] at hlx hly;have hfx:off+k1.length<=X.size:=by omega
   have hfy:off+k1.length<=Y.size:=by omega
   have p1:=ag0 (P:=P) (w:=w) (X:=X) (off:=off) hi hk1 dF hfx;have p2:=ag0 (P:=P) (w:=w) (X:=Y) (off:=off) hi hk1 dF hfy;have p3:=hK m hk1 g1;simp only [Op.eqFields,hnm,ne_eq,not_false_eq_true,if_true];rw [aFC,aI p1,aI p2,aI p3];cases r1 with
   | false=>rfl
   | true=>
    simp only [bB,iK,if_false,dY];refine ihf m hk2 ?_;rw [dF];simpa [List.drop_drop] using g2
end
def Jf:aa A->ah (aa aj)
 | []=>some []
 | .v x::as=>(Jf as).map (x :: ·)
 | _=>none
theorem abP:∀vs:aa aj,Jf (vs.map .v)=some vs
 | []=>rfl
 | v::vs=>by simp [Jf,abP vs]
def Ya (ks:aa EK) (X Y:(Nat->AV)->ah (aa A)) (ne:Bool) (s:Nat->AV):ah (aa AV):=
 match X s,Y s with
 | some as,some bs=>match Jf as,Jf bs with
  | some xs,some ys=>match nk ks xs ys with
   | some r=>some [.v [.v (.bool (if ne then !r else r))] []]
   | none=>none
  | _,_=>none
 | _,_=>none
def ag1 (P:aS) (N:Nat) (g:Nat->TT) (o:bP):ah Stp:=
 match o.dst,o.op with
 | some d,.binOp op t x y _=>match P.underlying t,NN P 12 t,rM P g t 0 x,rM P g t 1 y with
  | some (.struct _),some ks,some X,some Y=>
   if d<N/\(op = .eql\/op = .neq)/\X.ag=true/\Y.ag=true/\qD X.cs=true/\qD Y.cs=true/\P.eqGuardType P.depth t=false then
    some (Stp.set d (.val false [.d]) (X.rd++Y.rd) (.det (Ya ks X.get Y.get (decide (op = .neq)))))
   else none
  | _,_,_,_=>none
 | _,_=>none
theorem ama {κ:aQ} {w:aA} {p:Pl} {cs:aa CT} {vs:aa aj} {as:aa A} (hl:vs.length=cs.length) (hd:qD cs=true) (h:aB κ w cs p 0 (fun k=>vs.getD k undef) as):as=vs.map .v:=by
 obtain ⟨h1,_⟩:=VS hd h;simp only [dE] at h1;have mq:(List.range cs.length).map (fun k=>vs.getD k undef)=vs:=by
  apply XJ
  ·simp [hl]
  ·intro k hk nY;simp [dw,aR nY]
 rw [mq] at h1;exact h1
theorem ar0 {x:aj} {vs:aa aj} (h:cellsOf true x=some vs):x = .agg vs.toArray:=by
 cases x<;>simp [cellsOf] at h;subst h;simp
theorem ar1 {P:aS} {N:Nat} {g:Nat->TT} {o:bP} {S:Stp} (h:ag1 P N g o=some S):ek P N o g S:=by
 unfold ag1 at h;split at h;case h_2=>cases h
 case h_1 d op t x y u hd ho=>
 split at h;case h_2=>cases h
 case h_1 fs ks X Y hu hk hX hY=>
 split at h;case isFalse=>cases h
 case isTrue hc=>
 cases h;obtain ⟨hdN,lI,hxa,hya,hxd,hyd,Np⟩:=hc;intro ac κ0 κ w0 w tg sv s a v next Q hN hR hL hv bU;simp only [Stp.set,Eff.rel,Ya] at hv;split at hv;case h_2=>cases hv
 case h_1 as bs jU wy=>
 split at hv;case h_2=>cases hv
 case h_1 xs ys Bo hys=>
 split at hv;case h_2=>cases hv
 case h_1 r hr=>
 cases hv;obtain ⟨vs,a1,a2,a3,_⟩:=rO hR hL hX jU;obtain ⟨ws,b1,b2,b3,_⟩:=rO hR hL hY wy;have e1:=ama a2 hxd a3;have e2:=ama b2 hyd b3;rw [e1,abP] at Bo;rw [e2,abP] at hys;cases Bo;cases hys;rw [hxa] at a1;rw [hya] at b1;have va:=ar0 a1;have vb:=ar0 b1;have ry:=(ay0 (P:=P) (w:=w) (d:=12)).1 (10000-12) hk hr;simp only [valOf,hu] at ry;refine iU hd hN hdN (w':=w) (x:=.bool (if decide (op = .neq) then !r else r)) ?_ (XQ hR hdN rfl (Grows.refl w)) bU;unfold execOp;rw [ho];simp only;refine dG ?_;rw [va,vb,aI (run_eqGuard_agg (P:=P) w op t x y _ _ Np)];rcases lI with rfl|rfl
 ·rw [run_eql_struct,ry];rfl
 ·rw [run_neq_struct,ry];rfl
def bytesOf:aa (aa A)->ah (aa Int)
 | []=>some []
 | [.v (.int .u8 n)]::xs=>(bytesOf xs).map (n :: ·)
 | _=>none
def ag2 (ns:aa Int):ByteArray:=ns.foldl (fun r n=>r.push (UInt8.ofNat n.toNat)) ByteArray.empty
def ag3 (t:Nat) (s:Nat->AV):ah (aa AV):=
 match uX t s with
 | some (xs,_)=>match bytesOf xs with
  | some ns=>some [.v [.v (.string (ag2 ns))] []]
  | none=>none
 | none=>none
def abQ (P:aS) (N:Nat) (g:Nat->TT) (fe:Bool) (o:bP):ah Stp:=
 if fe then match o.dst,o.op with
  | some d,.slice ty (.tmp t) lo hi none=>match P.underlying ty,g t,Ht g lo,Ht g hi with
   | some (.slice et),.val false [.sl (.own pin) e],some L,some H=>match P.info? et with
    | some i=>if d<N/\t<N/\i.size=e.length/\CT.mens [t] [.sl (.own pin) e]=false/\(lo=none\/CT.nowns e=true) then
      some (Stp.mv d [t] (.val false [.sl (.own none) e]) [t] (.det (AL t L H))) else none
    | none=>none
   | _,_,_,_=>none
  | _,_=>none
 else none
theorem aoR {P:aS} {N:Nat} {g:Nat->TT} {fe:Bool} {o:bP} {S:Stp} (h:abQ P N g fe o=some S):ek P N o g S:=by
 unfold abQ at h;split at h;case isFalse=>cases h
 split at h;case h_2=>cases h
 case h_1 d ty t lo hi hd ho=>
 split at h;case h_2=>cases h
 case h_1 et pin e L H hty hT G_ hHi=>
 split at h;case h_2=>cases h
 case h_1 i jv=>
 split at h;case isFalse=>cases h
 case isTrue hc=>
 obtain ⟨hdN,lG,dF,hm,gK⟩:=hc;cases h;intro ac κ0 κ w0 w tg sv s a v next Q hN hR hL hv bU;simp only [Stp.mv,Eff.rel,AL] at hv;split at hv;case h_2=>cases hv
 case h_1 xs is Bo=>
 split at hv;case h_2=>cases hv
 case h_1 l h hl hh=>
 split at hv;case isFalse=>cases hv
 case isTrue hb=>
 cases hv;have gP:=vS Bo;obtain ⟨e1,e2⟩:=hL.at hT (by simp);have h1:=hR.tr t;rw [e1] at h1;simp only [TR] at h1;obtain ⟨as,vs,g1,g2,g3,_,g5⟩:=h1;rw [e2,gP] at g1;cases g1;have:=jW g2;subst this;have g5':=g5;simp only [aB] at g5;obtain ⟨tT,_⟩:=g5;simp only [RC] at tT;obtain ⟨ao,cap,hx,cZ,tK⟩:=tT;simp only [uG] at hx;have bN:((xs.drop l).take (h-l)).length=h-l:=by rw [iy,sN];omega
 have kr:a.eval (.tmp t) = .slice ao xs.length cap:=hx;have eO:=NB (P:=P) (t:=ty) (e:=et) (i:=i) (ao:=ao) (len:=xs.length) (cap:=cap) (lo:=lo.map a.eval) (hi:=hi.map a.eval) (l:=l) (h:=h) (w:=w) hty jv (yX hR hL G_ hl) (yX hR hL hHi hh) hb.1 (by omega);have aX:t≠FB:=Nat.ne_of_lt (pz lG hR.nle);have hnf:FB∉[t]:=fun hm=>aX (cK.1 hm).symm
 refine wN hd hN hdN (w':=w) (x:=.slice (if cap=l then ao else ao.map (·.add (l*i.size))) (h-l:Nat) (cap-l)) ?_ (C9 (f:=fun _ k=>some [k]) (nb:=none) hR hdN hnf (Grows.refl w) (fun _ _ h=>by cases h) rfl ?_) bU
 ·unfold execOp;rw [ho];simp only;refine dG ?_;rw [kr];simpa using eO
 ·simp only [TR,bS];refine ⟨_,[_],rfl,rfl,rfl,gp rfl,?_⟩;simp only [aB,RC,uG,bN];refine ⟨⟨_,_,rfl,by omega,?_⟩,trivial⟩;rcases tK with ⟨rfl,rfl⟩|⟨b,off,rfl,wy,hκ,hw,he⟩
  ·left;have:l=0:=by omega
   subst this;simp
  ·right;have hκ':bf κ (tL [t] d fun _ k=>some [k]) none b=some (d,[0]):=by
    simp only [Pl.at,gQ] at hκ;simp [bf,hκ,tL]
   have bq:∀S,(∀m,m∈[t]->m∉S)->∀b,bg κ w S b->bg (bf κ (tL [t] d fun _ k=>some [k]) none) w S b/\Same w w b:=fun S hS b hb=>nP (Grows.refl w) aoz (fun _ _ h=>by cases h) hS b hb
   have hse:CT.allSs (fun S=>∀m,m∈[t]->m∉S) e:=by
    refine eQ (fun S hS=>hS) ?_;simpa [CT.mens,CT.men] using hm
   by_cases jX:cap=l
   ·rw [if_pos jX];have hz:h-l=0:=by omega
    refine ⟨b,off,rfl,wy,by simpa [Pl.at] using hκ',fun q q1 q2 => ?_,?_⟩
    ·rw [jX] at q2;simp at q2;omega
    ·rw [hz];simp [dz]
   ·rw [if_neg jX];refine ⟨b,off+l*i.size,by simp only [dx];rw [yP],wy,by simpa [Pl.at] using hκ',?_,?_⟩
    ·rw [dF];refine hw.sub (by omega) ?_;have:l*e.length+(cap-l)*e.length=cap*e.length:=by rw [<-eu];congr 1;omega
     omega
    ·rw [dF];by_cases hl0:l=0
     ·subst hl0;have h5:=Kt (l:=h-0) he;have h6:=Ki (f:=id) (κ':=bf κ (tL [t] d fun _ k=>some [k]) none) (w':=w) (p':=Pl.at (d,[]) 0) bq hse (fun b q hb=>⟨?_,Same.refl w b⟩) h5
      ·rw [iM] at h6;simpa using h6
      ·simp only [Pl.at,gQ,J_] at hb ⊢;simp [bf,hb,tL]
     ·have eD:CT.nowns e=true:=by
       rcases gK with hp|hp
       ·exfalso;rw [hp] at G_;simp only [Ht,aN] at G_;subst G_;simp only [AJ,aN] at hl;exact hl0 hl.symm
       ·exact hp
      have h5:=Kt (l:=h-l) (VY (l:=l) he);rw [dE] at h5;have h6:=NM (p':=Pl.at (d,[]) 0) (j':=0) (get':=fun j=>cellD w b (off+l*e.length+j)) eD (fun q _=>by
       show cellD w b _=cellD w b _
       congr 1;omega) h5
      exact VM bq eD hse h6
end Go.Fw
namespace Go.Fw
def BJ (r:Nat) (P:aa Nat) (base n:Nat) (srcs:aa Nat) (p:Pl):ah Pl:=
 if p.1=r then (if (List.range n).any (fun k=>(P++[base+k]).isPrefixOf p.2) then none else some p)
 else if p.1∈srcs then match p.2 with
  | k::q=>some (r,P++(base+k)::q)
  | []=>none
 else some p
theorem aC3 {r base n:Nat} {P:aa Nat} {srcs:aa Nat}:∀r' q p,BJ r P base n srcs (r',q)=some p->r'∉r::srcs->p=(r',q):=by
 intro r' q p h hr;simp only [aY,not_or] at hr;simp only [BJ,hr.1,hr.2,if_false] at h;cases h;rfl
theorem Ku {r base n:Nat} {P q:aa Nat} {srcs:aa Nat} (h:∀k,k<n->¬P++[base+k] <+: q):BJ r P base n srcs (r,q)=some (r,q):=by
 simp only [BJ,if_true];rw [if_neg];simp only [nI,iY,not_exists,not_and];intro k hk hh;exact h k hk (List.isPrefixOf_iff_prefix.1 hh)
section
variable {ac:Nat->Nat->aj} {κ0 κ:aQ} {w0 w w':aA} {N:Nat} {tg:Nat->TT} {sv:Nat->AV} {tm:Nat->aj}
theorem avE (h:R ac κ0 w0 κ w N tg sv tm) {r:Nat} (yf:r<N) {cs e:aa CT} {sk:Sk} {is S:aa Nat} {B O off:Nat} (ht:(tg r).cts=some cs) {ra row:aa A} (hs:sv r = .v ra [])
  (hp:I9 κ w tg tm r sk is S B O) (oQ:sk≠[]) (he:iq true cs sk=some e) (hl:bZ ra sk is=some row) {srcs:aa Nat} (qh:FB∉srcs) (om:r∉srcs) {t:Nat} {cv:aa CT} {vs:aa aj} {as:aa A}
  (hv:Part κ w srcs t cv vs as) (hn:off+cv.length<=e.length) (cZ:CT.les cv ((e.drop off).take cv.length)=true) (hm:CT.mens (r::srcs) cs=false) (hmv:CT.mens (r::srcs) cv=false) (GZ:t∈srcs\/t=r\/True) :
  Wrb w B (O+off) (O+off+vs.length) /\
  R ac κ0 w0 (bf κ (BJ r (bY [] 0 sk is).1 ((bY [] 0 sk is).2+off) cv.length srcs) none) (bM w B (O+off) vs) N (upd (fun u=>if u∈srcs then .dead else (tg u).kill (r::srcs) (r::srcs)) r (tg r))
   (upd sv r (.v (lN ra sk is (splice row off as)) [])) tm:=by
 have Cb:=hv.len;have eZ:=h.root ht hs;obtain ⟨b0,o,g1,jc,hW,cB⟩:=C8 (bo:=(rb (tg r) (tm r)).map fun b=>(b,0)) oQ eZ he hl;have ha:=hp.addr;simp only [iA] at ha;simp only [dE] at g1;rw [ha] at g1;simp only [aN,di] at g1;obtain ⟨rfl,rfl⟩:=g1;have pg:is≠[]:=by
  rintro rfl;cases sk with
  | nil=>exact oQ rfl
  | cons s sk=>cases s;simp [bZ] at hl
 have aFD:(bY [] 0 sk is).1≠[]:=by simp [arG (sk:=sk) (is:=is) (p:=[]) (j:=0) oQ pg]
 generalize hP:(bY [] 0 sk is).1=P at *
 generalize hj:(bY [] 0 sk is).2=j at *
 have fw:=lX vs w B (o+j+off);have dF:(bM w B (o+j+off) vs).heap.size=w.heap.size:=fw.1;have kz:∀b p,κ b=some p->bf κ (BJ r P (j+off) cv.length srcs) none b=BJ r P (j+off) cv.length srcs p:=fun b p hb=>rJ (fun _ _ h=>by cases h) h.col hb
 have hWn:Wrb w B (o+j+off) (o+j+off+vs.length):=hW.sub (by omega) (by omega);refine ⟨hWn,?_⟩;have aFE:∀S,(∀m,m∈r::srcs->m∉S)->∀b,bg κ w S b->b≠B:=by
  rintro S hS b hb rfl;exact hS r (by simp) (hb.2 _ _ jc).1
 have bq:∀S,(∀m,m∈r::srcs->m∉S)->∀b,bg κ w S b->bg (bf κ (BJ r P (j+off) cv.length srcs) none) (bM w B (o+j+off) vs) S b/\Same w (bM w B (o+j+off) vs) b:=
  fun S hS b hb=>by
   have h1:=nP (F:=BJ r P (j+off) cv.length srcs) (nb:=none) (Grows.refl w) aC3 (fun _ _ h=>by cases h) hS b hb;exact ⟨⟨by rw [dF];exact h1.1.1,h1.1.2⟩,dZ (aFE S hS b hb)⟩
 have aFF:bf κ (BJ r P (j+off) cv.length srcs) none B=κ B:=by
  rw [kz B _ jc,jc];refine Ku fun k hk hh => ?_
  have:=hh.length_le;rw [dP,Ka] at this;omega
 -- the value,moved
 have Xt:aB (bf κ (BJ r P (j+off) cv.length srcs) none) (bM w B (o+j+off) vs) cv (r,P) (j+off) (fun k=>vs.getD (k-(j+off)) undef) as:=by
  by_cases hts:t∈srcs
  ·have aX:t≠r:=by rintro rfl;exact om hts
   have:=fQ (f:=id) (P:=fun S=>∀m,m∈r::srcs->m∉S) (κ':=bf κ (BJ r P (j+off) cv.length srcs) none) (w':=bM w B (o+j+off) vs) (p':=(r,P)) (j':=j+off) (get':=fun k=>vs.getD (k-(j+off)) undef) bq
    (eQ (fun S hS=>hS) hmv) (fun i hi b q hb=>⟨?_,dZ ?_⟩) (fun i hi=>by simp) hv.row
   ·rwa [iM] at this
   ·rw [kz b _ hb];simp [BJ,aX,hts]
   ·rintro rfl;rw [jc] at hb;simp only [aN,di] at hb;exact aX hb.1.symm
  ·exact jL (P:=fun S=>∀m,m∈r::srcs->m∉S) bq (hv.own.resolve_left hts) (eQ (fun S hS=>hS) hmv) (fun i hi=>by simp) hv.row
 have hme:=Az hm he;have bN:=dJ cB;have aHW:=dJ hv.row;have uS:aB (bf κ (BJ r P (j+off) cv.length srcs) none) (bM w B (o+j+off) vs) e (r,P) j (fun k=>cellD (bM w B (o+j+off) vs) B (o+k)) (splice row off as):=by
  refine nK (by rw [lm (by omega)];exact bN) fun k c a hc ha => ?_
  rw [nQ (by omega)] at ha;have hk:=(aZ hc).1;by_cases bn:off<=k/\k<off+cv.length
  ·rw [if_neg (by omega),if_pos (by omega)] at ha;have hh:=ib (wP cZ Xt) (k:=k-off) (c:=c) (a:=a) (by rw [qK (by omega),pE,show off+(k-off)=k from by omega];exact hc) ha;have ng:=zX (w:=w) (b:=B) (o:=o+j+off) (vs:=vs) hWn (k-off) (by omega);rw [show j+off+(k-off)=j+k from by omega] at hh;rw [show o+j+off+(k-off)=o+(j+k) from by omega] at ng;rw [ng];have e2:vs.getD (j+k-(j+off)) undef=vs[k-off]'(by omega):=by
    rw [show j+k-(j+off)=k-off from by omega];simp [dw,aR (show k-off<vs.length by omega)]
   simp only [e2] at hh;first
    | exact hh
    | (rw [dw,aR (by omega)];exact hh)
  ·have G7:row[k]?=some a:=by
    by_cases h1:k<off
    ·rwa [if_pos h1] at ha
    ·rw [if_neg h1,if_neg (by omega)] at ha;exact ha
   have h0:=ib cB hc G7;have ng:cellD (bM w B (o+j+off) vs) B (o+(j+k))=cellD w B (o+(j+k)):=by
    unfold cellD;rw [iB,if_neg];rintro ⟨_,h1,h2⟩;exact bn ⟨by omega,by omega⟩
   rw [ng];refine vN (yO (fun S hS b hb=>bq S hS b hb) (uV hme hc)) (fun b q hb=>⟨?_,dZ ?_⟩) h0
   ·rw [kz b _ hb,hb];refine Ku fun m Nu gK => ?_
    simp only [Pl.at] at gK;rw [lK] at gK;have:=nL (p:=P) (q:=q) (x:=j+off+m) (y:=j+k) (by simpa using gK);exact bn ⟨by omega,by omega⟩
   ·rintro rfl;rw [jc] at hb;simp [Pl.at] at hb
 have mX:∀get,(fun k=>get (0+k))=rg w (tg r) (tm r)->aB κ w cs (r,[]) 0 get ra ->
   aB (bf κ (BJ r P (j+off) cv.length srcs) none) (bM w B (o+j+off) vs) cs (r,[]) 0 get (lN ra sk is (splice row off as)):=fun get zN aCq=>by
  refine I6 (bo:=(rb (tg r) (tm r)).map fun b=>(b,0)) oQ aCq he hl (by rw [zN];exact ha) (eQ (fun S hS b hb=>bq S hS b hb) hm)
   (fun b q hb oh ji=>⟨?_,dZ oh⟩) (fun hb=>by rw [dF];exact hb) aFF
   (fun o' y pq hy=>⟨by rw [iB,if_neg (by rintro ⟨_,h1,h2⟩;exact pq ⟨by omega,by omega⟩)];exact hy,fw.2.2.2.2.2 _ _⟩) (nN hW) (fun o' pq => ?_)
  ·rw [kz b _ hb,hb];refine Ku fun k hk gK => ?_
   rw [hP,hj] at ji;exact ji (off+k) (by omega) (by rw [<-kF];exact gK)
  ·rw [hj] at pq;have:o'=o:=by omega
   subst this;rw [hP,hj];exact uS
 refine uf (mods:=r::srcs) (M:=r::srcs) h (by have:=h.nle;simp only [aY,not_or];exact ⟨by omega,qh⟩) bq (fun b r' q jw hb => ?_) (fun u hu => ?_) (fun u hu => ?_) (fun u _=>rfl) (fun u hu => ?_) (fun u hu => ?_) (fun b hb => ?_) ?_
 ·simp at jw;refine ⟨?_,dZ ?_⟩
  ·rw [kz b _ hb,hb];simp [BJ,jw]
  ·rintro rfl;rw [jc] at hb;cases hb;exact jw.1 rfl
 ·simp at hu;left;simp only [upd,hu.1,hu.2,if_false]
 ·simp at hu;simp [upd,hu]
 ·by_cases G5:u=r
  ·subst G5;rw [bS];have h1:=h.tr u;cases hT:tg u with
   | val ag cs'=>
    rw [hT] at h1 ht;simp only [TT.cts,aN] at ht;subst ht;simp only [TR,bS] at h1 ⊢;obtain ⟨as',vs',k1,k2,k3,k4,k5⟩:=h1;rw [hs] at k1;cases k1;have nZ:rg w (tg u) (tm u)=fun k=>vs'.getD k undef:=by rw [hT];funext k;simp [rg,k2]
    exact ⟨_,vs',rfl,k2,k3,k4,mX _ (by rw [nZ];funext k;simp) k5⟩
   | box cs'=>
    rw [hT] at h1 ht;simp only [TT.cts,aN] at ht;subst ht;simp only [TR,bS] at h1 ⊢;obtain ⟨as',b,k1,k2,k3,k4,k5,k6,k7⟩:=h1;rw [hs] at k1;cases k1;have oh:b≠B:=by
     rintro rfl;rw [k4] at jc;simp only [aN,di,true_and] at jc;exact aFD jc.symm
    have fJ:=dZ (w:=w) (o:=o+j+off) (vs:=vs) oh;have nZ:rg w (tg u) (tm u)=cellD w b:=by rw [hT];funext k;simp [rg,k2]
    have hu':=mX (cellD w b) (by rw [nZ];funext k;simp) k7;have hcd:∀i,i<cs'.length->cellD (bM w B (o+j+off) vs) b i=cellD w b i:=fun i hi=>fJ.cD k5.rdb (Ay _) hi
    refine ⟨_,b,rfl,k2,by rw [dF];exact k3,?_,nN k5,fun k j' c e' hk=>by rw [hcd k (aZ hk).1];exact k6 k j' c e' hk,
     mF (fun i _ hi=>hcd i (by simpa using hi)) hu'⟩
    rw [kz b _ k4];refine Ku fun k hk gK => ?_
    have:=gK.length_le;rw [dP,Ka,bQ] at this;omega
   | dead=>rw [hT] at ht;simp [TT.cts] at ht
   | alias=>rw [hT] at ht;simp [TT.cts] at ht
   | ptr=>rw [hT] at ht;simp [TT.cts] at ht
   | tup=>rw [hT] at ht;simp [TT.cts] at ht
  ·simp [G5] at hu;simp [upd,G5,hu,TR]
 ·have awH:u≠r:=by omega
  simp only [upd,awH,if_false,h.out u hu,TT.kill];split<;>rfl
 ·rw [dF] at hb;have:=h.col b hb;simp [bf,this]
 ·exact ⟨by rw [dF];exact h.fr.size,fun b hb h0=>⟨by have:=(h.fr.kept b hb h0).1;simp [bf,this],by
   have oh:b≠B:=by rintro rfl;rw [(h.fr.kept _ hb h0).1] at jc;cases jc
   rw [fw.2.2.2.2.1 b oh];exact (h.fr.kept b hb h0).2⟩,by rw [fw.2.1];exact h.fr.os,by rw [fw.2.2.1];exact h.fr.out,by rw [fw.2.2.2.1];exact h.fr.tape⟩
end
def NP (P:aS) (N:Nat) (g:Nat->TT) (o:bP):ah Stp:=
 match o.dst,o.op with
 | none,.store t p x=>match plX g p,rM P g t 0 x,P.info? t with
  | some X,some V,some i=>match (g X.r).cts with
   | some cs=>match iq true cs X.sk with
    | some e=>
     if X.r<N/\V.cs.length=i.size/\X.off+V.cs.length<=e.length/\CT.lives V.cs=true/\X.sk≠[]/\X.r∉dN V/\CT.les V.cs ((e.drop X.off).take V.cs.length)=true/\CT.mens (X.r::dN V) cs=false/\CT.mens (X.r::dN V) V.cs=false/\CT.mens (dN V) V.cs=false then
      some ⟨(X.r,g X.r)::(dN V).map (fun t=>(t,.dead)),fun T=>T.kill (X.r::dN V) (X.r::dN V),X.r::(X.rd++V.rd),.det (rP X V)⟩
     else none
    | none=>none
   | none=>none
  | _,_,_=>none
 | _,_=>none
theorem ag4 {P:aS} {N:Nat} {g:Nat->TT} {o:bP} {S:Stp} (h:NP P N g o=some S):ek P N o g S:=by
 unfold NP at h;split at h;case h_2=>cases h
 case h_1 t p x hd ho=>
 split at h;case h_2=>cases h
 case h_1 X V i hX hV hi=>
 split at h;case h_2=>cases h
 case h_1 cs qi=>
 split at h;case h_2=>cases h
 case h_1 e he=>
 split at h;case isFalse=>cases h
 case isTrue hc=>
 obtain ⟨yf,dF,yj,lJ,oQ,lh,cZ,hmr,aFG,hmv⟩:=hc;cases h;intro ac κ0 κ w0 w tg sv s a v next Q hN hR hL hv bU;simp only [Eff.rel,rP] at hv;split at hv;case h_2=>cases hv
 case h_1 is ra as Mw J4 jU=>
 split at hv;case h_2=>cases hv
 case h_1 row cB=>
 cases hv;obtain ⟨B,O,hp,kr⟩:=NH hR hL hX Mw;obtain ⟨sG,jB⟩:=AB hL qi;obtain ⟨ra',yh⟩:=hR.sv_root sG;obtain ⟨is',g_⟩:=cO J4;rw [jB,g_] at yh;cases yh;have om:sv X.r = .v ra []:=by rw [jB,g_]
 obtain ⟨vs,h1,h2,h3⟩:=Ja hR hL hV jU (srcs:=dN V) (fun ho=>by simp [dN,ho]) hmv;obtain ⟨_,_,_,_,_,qg,_⟩:=rO hR hL hV jU;have aX:g X.r≠.dead:=fun hg=>by rw [hg] at qi;simp [TT.cts] at qi
 obtain ⟨e1,e2⟩:=hL.at rfl aX;obtain ⟨hwr,jk⟩:=avE hR yf sG om hp oQ he cB (srcs:=dN V) (by unfold dN;split<;>simp;exact fun he=>qg he.symm) lh h2 (off:=X.off) yj cZ hmr aFG (.inr (.inr trivial));refine VO (w':=bM w B (O+X.off) vs) ?_ (bU undef _ _ _ (upd sv X.r (.v (lN ra X.sk is (splice row X.off as)) [])) (by rw [hd,Ko];exact jk) (fun u => ?_) (fun u => ?_))
 ·unfold execOp;rw [ho];simp only;have lH:=yT h1;have bN:=h2.len;have Cc:=agE bN fun k hk=>by
   have:=VT lJ h2.row k hk;simpa using this
  have:=Hq (P:=P) (t:=t) (i:=i) (b:=B) (o:=O+X.off) (v:=a.eval x) (w:=w) hi (by rw [<-XC,lH,bN,dF]) (by rw [lH];exact Cc) (by rw [<-dF,<-bN];exact hwr);rw [kr,aI this,lH];rfl
 ·show _=aG _ ((X.r,g X.r)::(dN V).map fun t=>(t,TT.dead)) u;simp only [aG,upd,NG,e1]
 ·show _=aG sv ((((X.r,g X.r)::(dN V).map fun t=>(t,TT.dead)).map (·.1)).zip [_]) u;simp [aG,upd]
end Go.Fw
namespace Go.Fw
theorem SB {ac:Nat->Nat->aj} {cs:aa CT} {f:Nat->aj} (hn:CT.nowns cs=true):rF ac cs f:=by
 intro k j c e hc;have:=rO.nowns_nth hn hc;simp [CT.nown] at this
section
variable {ac:Nat->Nat->aj} {κ0 κ:aQ} {w0 w w':aA} {N:Nat} {tg:Nat->TT} {sv:Nat->AV} {tm:Nat->aj}
theorem aAf (h:R ac κ0 w0 κ w N tg sv tm) {d t:Nat} (hd:d<N) {ws:aa (Bool × Nat)} {cs:aa CT} (ht:tg t = .tup ws cs)
  {off n:Nat} (hn:off+n<=cs.length) {g:Bool} {x:aj} {as:aa A} (hs:sv t = .v as []) (eD:CT.nowns ((cs.drop off).take n)=true)
  (hx:∀xs vs,tm t = .tuple xs->uJ ws xs.toList=some vs->cellsOf g x=some ((vs.drop off).take n)) :
  R ac κ0 w0 (bf κ (iN d) none) w N (kv tg d (.val g ((cs.drop off).take n))) (upd sv d (.v ((as.drop off).take n) [])) (upd tm d x):=by
 refine nO h hd (Grows.refl w) (fun _ _ h=>by cases h) ?_;have h1:=h.tr t;rw [ht] at h1;simp only [TR,bS] at h1 ⊢;obtain ⟨as',xs,vs,g1,g2,g3,g4,g5⟩:=h1;rw [hs] at g1;cases g1;refine ⟨_,_,rfl,hx xs vs g2 g3,by simp;omega,SB eD,jL (P:=fun _=>True) (j:=off) (get:=fun k=>vs.getD k undef) (fun S _ b hb=>mK (Grows.refl w) (fun _ _ h=>by cases h) S b hb) eD (iC (fun _=>trivial) _) (fun i hi => ?_) (by simpa using mJ n (mI off g5))⟩;have jv:i<n:=by simp at hi;omega
 simp only [dw];rw [dE,qK jv,pE]
theorem ar2 {cs:aa CT} {off n:Nat} {f:Nat->aj} (h:rF ac cs f):rF ac (kT off n cs) f:=by
 intro k j c e hc;rw [vQ] at hc;cases h0:cs[k]? with
 | none=>simp [h0] at hc
 | some c0=>
  simp only [h0,dx,aN] at hc;split at hc
  ·cases c0<;>simp [vO] at hc
  ·subst hc;exact h k j c e h0
theorem aAg (h:R ac κ0 w0 κ w N tg sv tm) {d t:Nat} (hd:d<N) (lG:t<N) (yI:d≠t) {cs:aa CT} (ht:tg t = .val true cs) (hm:CT.mens [t] cs=false)
  {off n:Nat} (hn:off+n<=cs.length) {g:Bool} {x:aj} {as:aa A} (hs:sv t = .v as []) (ji:iD ((cs.drop off).take n)=true)
  (hx:∀vs,cellsOf true (tm t)=some vs->cellsOf g x=some ((vs.drop off).take n)) :
  R ac κ0 w0 (bf κ (kJ t off n d) none) w N (upd (upd (fun u=>(tg u).kill [d,t] [t]) t (.val true (kT off n cs))) d (.val g ((cs.drop off).take n))) (upd sv d (.v ((as.drop off).take n) [])) (upd tm d x):=by
 have h1:=h.tr t;rw [ht] at h1;simp only [TR] at h1;obtain ⟨as',vs,g1,g2,g3,g4,g5⟩:=h1;rw [hs] at g1;cases g1;have mq:∀i,i<n->((vs.drop off).take n).getD i undef=vs.getD (off+i) undef:=by
  intro i hi;simp only [dw];rw [qK hi,pE]
 refine agz h hd yI g5 hm hn (hx vs g2) (by simp;omega) mq (gp ji) (fun κ' hκ Ar _ => ?_) lG;simp only [TR,upd_ne _ _ _ (mH yI)];exact ⟨_,vs,hs,g2,by rw [je];exact g3,ar2 g4,Ar⟩
end
def abR (N:Nat) (g:Nat->TT) (o:bP):ah Stp:=
 match o.dst,o.op with
 | some d,.extract (.tmp t) i=>match g t with
  | .tup ws cs=>match ws[i]? with
   | some (ag,n)=>if d<N/\woff ws i+n<=cs.length/\CT.nowns ((cs.drop (woff ws i)).take n)=true then
     some (Stp.set d (.val ag ((cs.drop (woff ws i)).take n)) [t] (.det (uj t (woff ws i) n))) else none
   | none=>none
  | _=>none
 | _,_=>none
theorem aoS {P:aS} {N:Nat} {g:Nat->TT} {o:bP} {S:Stp} (h:abR N g o=some S):ek P N o g S:=by
 unfold abR at h;split at h;case h_2=>cases h
 case h_1 d t i hd ho=>
 split at h;case h_2=>cases h
 case h_1 ws cs hT=>
 split at h;case h_2=>cases h
 case h_1 ag n hw=>
 split at h;case isFalse=>cases h
 case isTrue hc=>
 obtain ⟨hdN,hn,eD⟩:=hc;cases h;intro ac κ0 κ w0 w tg sv s a v next Q hN hR hL hv bU;simp only [Stp.set,Eff.rel,uj,dh] at hv;obtain ⟨as,hg,rfl⟩:=hv;obtain ⟨e1,e2⟩:=hL.at hT (by simp);have h1:=hR.tr t;rw [e1] at h1;simp only [TR] at h1;obtain ⟨as',xs,vs,g1,g2,g3,g4,g5⟩:=h1;obtain ⟨is,hs⟩:=cO hg;rw [e2,hs] at g1;cases g1;obtain ⟨x,hx,hcx,_⟩:=NL g3 hw;refine iU (d:=d) (x:=x) (w':=w) hd hN hdN ?_ (aAf hR hdN e1 hn (g:=ag) (x:=x) (as:=as) (by rw [e2,hs]) eD (fun xs' vs' k1 k2=>by
  rw [g2] at k1;cases k1
  rw [g3] at k2;cases k2
  exact hcx)) bU
 unfold execOp;rw [ho];simp only;refine dG ?_;have kr:a.eval (.tmp t)=gm a t:=rfl;rw [kr,g2];unfold Instr.extract;simp only;have Ca:xs[i]?=some x:=by simpa using hx
 rw [Ca];rfl
theorem ar3 {P:aS} {st:TypeId} {fs:Array Field} {f:Nat} {fi:Field} {i:TypeInfo} {ag:Bool} {x:aj} {vs:aa aj} {w:aA} (hu:P.underlying st=some (.struct fs)) (hf:fs[f]?=some fi)
  (hi:P.info? fi.type=some i) (hg:wI P fi.type=some ag) (hx:cellsOf true x=some vs) (h1:ag=true\/i.size=1) (hn:fi.offset+i.size<=vs.length) (uD:∀y,vs[fi.offset]?=some y->ag=false->∀us,y≠.agg us/\y≠.tuple us) :
  ∃y,(Instr.field st x f).run P w = .ok y w/\cellsOf ag y=some ((vs.drop fi.offset).take i.size):=by
 cases x<;>simp [cellsOf] at hx;rename_i cells;unfold Instr.field;rw [aI (run_underlying hu w)];simp only [hf];rw [aI (show (asAgg (.agg cells)).run P w = .ok cells w from rfl)];unfold part;rw [aI (FK hg w)];cases ag with
 | true=>
  simp only [if_true];rw [aI (run_sizeOf hi w)];refine ⟨_,rfl,?_⟩;simp only [cellsOf,aN];rw [<-hx];simp [Array.toList_extract]
 | false=>
  simp only [iK,if_false];have hs:i.size=1:=by simpa using h1
  have hl:fi.offset<vs.length:=by omega
  have hc:cells[fi.offset]?=some (vs[fi.offset]):=by
   rw [<-Array.getElem?_toList];simp only [hx];exact aR hl
  rw [hc];refine ⟨_,rfl,?_⟩;rw [hs,uU hl];have:=uD _ (aR hl) rfl;cases hv:vs[fi.offset] with
  | agg us=>exact absurd hv (this us).1
  | tuple us=>exact absurd hv (this us).2
  | _=>simp [cellsOf]
def TT.vcs:TT->ah (aa CT)
 | .val true cs=>some cs
 | .alias true cs _ _ _ _=>some cs
 | _=>none
def TT.isV:TT->Bool
 | .val _ _=>true
 | _=>false
def ag5 (P:aS) (N:Nat) (g:Nat->TT) (o:bP):ah Stp:=
 match o.dst,o.op with
 | some d,.field st (.tmp t) f=>match P.underlying st with
  | some (.struct fs)=>match fs[f]? with
   | some fi=>match P.info? fi.type,wI P fi.type,(g t).vcs with
    | some i,some ag,some cs=>
     if d<N/\t<N/\fi.offset+i.size<=cs.length/\(ag=true\/i.size=1)/\CT.lives ((cs.drop fi.offset).take i.size)=true then
      if CT.nowns ((cs.drop fi.offset).take i.size)=true then some (Stp.set d (.val ag ((cs.drop fi.offset).take i.size)) [t] (.det (uj t fi.offset i.size)))
      else if (g t).isV=true/\d≠t/\CT.mens [t] cs=false/\iD ((cs.drop fi.offset).take i.size)=true then
       some ⟨[(d,.val ag ((cs.drop fi.offset).take i.size)),(t,.val true (kT fi.offset i.size cs))],fun T=>T.kill [d,t] [t],[t],.det (uj t fi.offset i.size)⟩
      else none
     else none
    | _,_,_=>none
   | none=>none
  | _=>none
 | _,_=>none
theorem aAh {ac:Nat->Nat->aj} {κ:aQ} {w:aA} {tg:Nat->TT} {sv:Nat->AV} {tm:Nat->aj} {t:Nat} {T:TT} {cs:aa CT} (hc:T.vcs=some cs) (h:TR ac κ w tg sv tm t T) :
  ∃as is vs,sv t = .v as is/\cellsOf true (tm t)=some vs/\vs.length=cs.length/\aB κ w cs (t,[]) 0 (fun k=>vs.getD k undef) as:=by
 cases T with
 | val ag cs'=>
  cases ag<;>simp only [TT.vcs,aN,reduceCtorEq] at hc;subst hc;simp only [TR] at h;obtain ⟨as,vs,g1,g2,g3,g4,g5⟩:=h;exact ⟨as,_,vs,g1,g2,g3,g5⟩
 | alias ag cs' r sk off S=>
  cases ag<;>simp only [TT.vcs,aN,reduceCtorEq] at hc;subst hc;simp only [TR] at h;obtain ⟨as,is,vs,gf,ra,row,g1,g2,g3,g4,g5,_⟩:=h;exact ⟨as,is,vs,g1,g2,g3,g5⟩
 | _=>simp [TT.vcs] at hc
theorem ar4 {P:aS} {N:Nat} {g:Nat->TT} {o:bP} {S:Stp} (h:ag5 P N g o=some S):ek P N o g S:=by
 unfold ag5 at h;split at h;case h_2=>cases h
 case h_1 d st t f hd ho=>
 split at h;case h_2=>cases h
 case h_1 fs hu=>
 split at h;case h_2=>cases h
 case h_1 fi hf=>
 split at h;case h_2=>cases h
 case h_1 i ag cs hi hg hT=>
 split at h;case isFalse=>cases h
 case isTrue hc=>
 obtain ⟨hdN,lG,hn,h1,lJ⟩:=hc;have key:∀{ac:Nat->Nat->aj} {κ0 κ:aQ} {w0 w:aA} {tg:Nat->TT} {sv s:Nat->AV} {a:Act} {as:aa A},R ac κ0 w0 κ w N tg sv (gm a)->Le g s tg sv->iO t s=some as ->
   ∃is vs x,tg t=g t/\sv t = .v as is/\cellsOf true (gm a t)=some vs/\(execOp a.eval o).run P w = .ok (.value x) w/\cellsOf ag x=some ((vs.drop fi.offset).take i.size)/\vs.length=cs.length/\aB κ w cs (t,[]) 0 (fun k=>vs.getD k undef) as:=by
  intro ac κ0 κ w0 w tg sv s a as hR hL hgA;obtain ⟨e1,e2⟩:=hL.at (T:=g t) rfl (by intro h;rw [h] at hT;simp [TT.vcs] at hT);have h2:=hR.tr t;rw [e1] at h2;obtain ⟨as',is,vs,g1,g2,g3,g4⟩:=aAh hT h2;obtain ⟨is',hs⟩:=cO hgA;rw [e2,hs] at g1;cases g1;have gM:=mJ i.size (mI fi.offset g4);obtain ⟨y,Q5,hy2⟩:=ar3 (w:=w) hu hf hi hg g2 h1 (by omega) (fun y hy Nr=>by
   have mY:i.size=1:=by rcases h1 with h1|h1<;>simp_all
   have hl1:((cs.drop fi.offset).take i.size).length=1:=by simp;omega
   have:=ib (k:=0) gM (aR (by omega)) (aR (by rw [dJ gM];omega))
   have Cc:=I_ (rH lJ (aR (by omega))) this
   have:=Rw Cc
   simpa [dw,hy] using this)
  refine ⟨is,vs,y,e1,by rw [e2,hs],g2,?_,hy2,g3,g4⟩;unfold execOp;rw [ho];simp only;exact dG Q5
 split at h;case isTrue eD=>
  cases h;intro ac κ0 κ w0 w tg sv s a v next Q hN hR hL hv bU;simp only [Stp.set,Eff.rel,uj,dh] at hv;obtain ⟨as,hgA,rfl⟩:=hv;obtain ⟨is,vs,x,e1,hs,mq,eO,hcx,hl,tT⟩:=key hR hL hgA;refine iU (d:=d) (x:=x) (w':=w) hd hN hdN eO (κ':=bf κ (iN d) none) ?_ bU;refine nO hR hdN (Grows.refl w) (fun _ _ h=>by cases h) ?_;simp only [TR,bS];refine ⟨_,_,rfl,hcx,by simp;omega,SB eD,jL (P:=fun _=>True) (j:=fi.offset) (get:=fun k=>vs.getD k undef) (fun S _ b hb=>mK (Grows.refl w) (fun _ _ h=>by cases h) S b hb) eD (iC (fun _=>trivial) _) (fun k hk => ?_) (by simpa using mJ i.size (mI fi.offset tT))⟩;have nY:k<i.size:=by simp at hk;omega
  simp only [dw];rw [dE,qK nY,pE]
 case isFalse eD=>
  split at h;case isFalse=>cases h
  case isTrue hc2=>
  obtain ⟨hV,yI,hm,ji⟩:=hc2;cases h;intro ac κ0 κ w0 w tg sv s a v next Q hN hR hL hv bU;simp only [Eff.rel,uj,dh] at hv;obtain ⟨as,hgA,rfl⟩:=hv;obtain ⟨is,vs,x,e1,hs,mq,eO,hcx,hl,tT⟩:=key hR hL hgA;have Xt:g t = .val true cs:=by
   cases Np:g t with
   | val ag' cs'=>rw [Np] at hT;cases ag'<;>simp [TT.vcs] at hT;rw [hT]
   | _=>rw [Np] at hV;simp [TT.isV] at hV
  have pg:is=[]:=by
   have h2:=hR.tr t;rw [e1,Xt] at h2;simp only [TR] at h2;obtain ⟨_,_,g1,_⟩:=h2;rw [hs] at g1;cases g1;rfl
  subst pg;have jk:=aAg hR hdN lG yI (by rw [e1,Xt]) hm hn (g:=ag) (x:=x) (as:=as) hs ji (fun vs' k1=>by rw [mq] at k1;cases k1;exact hcx);refine Km (w':=w) (x:=x) eO (bU x w _ _ _ (by rw [hd,p8 (a:=a) (by rw [hN];exact hdN)];exact jk) (fun u => ?_) (fun u => ?_))
  ·simp only [aG,upd]
  ·simp [aG,upd]
end Go.Fw
namespace Go.Fw
mutual
def CT.frz:CT->CT
 | .d=>.d
 | .sl (.own _) e=>.sl (.ro []) (CT.frzs e)
 | .sl m e=>.sl m (CT.frzs e)
def CT.frzs:aa CT->aa CT
 | []=>[]
 | c::cs=>c.frz::CT.frzs cs
end
theorem jJ:∀cs:aa CT,(CT.frzs cs).length=cs.length
 | []=>rfl
 | c::cs=>by simp [CT.frzs,jJ cs]
section
variable {κ κ':aQ} {w:aA} {t m:Nat}
mutual
theorem aAi (bq:∀S b,bg κ w S b->bg κ' w S b) (hk:∀b q,κ b=some (t,q)->m<=q.length->κ' b=none):∀{c:CT} {p:Pl} {x:aj} {a:A},p.1=t->m<=p.2.length->RC κ w c p x a->RC κ' w c.frz p x a
 | .d,_,_,.v _,_,_,h=>by simpa only [CT.frz,RC] using h
 | .d,_,_,.s _,_,_,h=>by simp [RC] at h
 | .sl (.own k) e,p,x,.s xs,hp,hm,h=>by
  simp only [CT.frz,RC,jJ] at h ⊢;obtain ⟨ao,cap,h1,h2,h3⟩:=h;refine ⟨ao,cap,h1,h2,?_⟩;rcases h3 with ⟨rfl,rfl⟩|⟨b,o,g1,g2,g3,g4,g5⟩
  ·left;exact qL.1 (by omega)
  ·right;have hb:κ' b=none:=hk b p.2 (by rw [g3,<-hp]) hm;refine ⟨b,o,g1,⟨g2,fun r q hq=>by rw [hb] at hq;cases hq⟩,fun o' h1 Bq=>(g4 o' h1 ?_).1,Jg bq hk hp (by omega) g5⟩;have:=jE e.length h2;omega
 | .sl (.ro S) e,p,x,.s xs,hp,hm,h=>by
  simp only [CT.frz,RC,jJ] at h ⊢;obtain ⟨ao,cap,h1,h2,h3⟩:=h;refine ⟨ao,cap,h1,h2,?_⟩;rcases h3 with h3|⟨b,o,g1,g2,g3,g4⟩
  ·exact .inl h3
  ·exact .inr ⟨b,o,g1,bq S b g2,g3,Jg bq hk hp (by omega) g4⟩
 | .sl .dead e,p,x,.s xs,_,_,h=>by simp [CT.frz,RC]
 | .sl .dead e,p,x,.v _,_,_,h=>by simp [CT.frz,RC]
 | .sl (.own k) e,p,x,.v _,_,_,h=>by simp [RC] at h
 | .sl (.ro S) e,p,x,.v _,_,_,h=>by simp [RC] at h
theorem abS (bq:∀S b,bg κ w S b->bg κ' w S b) (hk:∀b q,κ b=some (t,q)->m<=q.length->κ' b=none):∀{cs:aa CT} {p:Pl} {j:Nat} {get:Nat->aj} {as:aa A},p.1=t->m<=p.2.length+1->aB κ w cs p j get as->aB κ' w (CT.frzs cs) p j get as
 | [],_,_,_,[],_,_,_=>by simp [CT.frzs,aB]
 | [],_,_,_,_::_,_,_,h=>by simp [aB] at h
 | c::cs,p,j,get,[],_,_,h=>by simp [aB] at h
 | c::cs,p,j,get,a::as,hp,hm,h=>by
  simp only [CT.frzs,aB] at h ⊢;exact ⟨aAi bq hk (by simpa [Pl.at] using hp) (by simpa [Pl.at] using hm) h.1,abS bq hk hp hm h.2⟩
theorem Jg (bq:∀S b,bg κ w S b->bg κ' w S b) (hk:∀b q,κ b=some (t,q)->m<=q.length->κ' b=none):∀{e:aa CT} {p:Pl} {j:Nat} {get:Nat->aj} {xs:aa (aa A)},p.1=t->m<=p.2.length+1->dz κ w e p j get xs->dz κ' w (CT.frzs e) p j get xs
 | _,_,_,_,[],_,_,_=>by simp [dz]
 | e,p,j,get,x::xs,hp,hm,h=>by
  simp only [dz,jJ] at h ⊢;exact ⟨abS bq hk hp hm h.1,Jg bq hk hp hm h.2⟩
end
end
def CT.inn:CT->CT
 | .sl (.own k) e=>.sl (.own k) (CT.frzs e)
 | c=>c.frz
def yY (t m:Nat) (κ:aQ):aQ:=fun b=>
 match κ b with
 | some (r,q)=>if r=t/\m<=q.length then none else some (r,q)
 | none=>none
theorem adb {t m:Nat} {κ:aQ} {b:Nat} (h:κ b=none):yY t m κ b=none:=by simp [yY,h]
theorem NQ {t m:Nat} {κ:aQ} {b r:Nat} {q:aa Nat} (h:yY t m κ b=some (r,q)):κ b=some (r,q):=by
 unfold yY at h;split at h
 ·rename_i hk;split at h
  ·cases h
  ·rw [hk];exact h
 ·cases h
theorem amb {t m:Nat} {κ:aQ} {b r:Nat} {q:aa Nat} (h:κ b=some (r,q)) (hr:r≠t\/q.length<m):yY t m κ b=some (r,q):=by
 unfold yY;rw [h];simp only;rw [if_neg (by rintro ⟨h1,h2⟩;rcases hr with hr|hr<;>first|exact hr h1|omega)]
theorem ay1 {κ:aQ} {w:aA} {t:Nat}:∀{cs:aa CT} {j:Nat} {get:Nat->aj} {as:aa A},aB κ w cs (t,[]) j get as->aB (yY t 2 κ) w (cs.map CT.inn) (t,[]) j get as:=by
 have bq:∀S b,bg κ w S b->bg (yY t 2 κ) w S b:=fun S b hb=>⟨hb.1,fun r q hq=>hb.2 r q (NQ hq)⟩
 have hk:∀b q,κ b=some (t,q)->2<=q.length->yY t 2 κ b=none:=fun b q hb hq=>by simp [yY,hb,hq]
 intro cs;induction cs with
 | nil=>intro j get as h;cases as<;>simp [aB] at h ⊢
 | cons c cs ih=>
  intro j get as h;cases as with
  | nil=>simp [aB] at h
  | cons a as=>
   simp only [aB,bv] at h ⊢;refine ⟨?_,ih h.2⟩;have h1:=h.1;cases c with
   | d=>cases a<;>simp only [CT.inn,CT.frz,RC] at h1 ⊢;exact h1
   | sl md e=>
    cases a with
    | v y=>cases md<;>simp [CT.inn,CT.frz,RC] at h1 ⊢
    | s xs=>
     cases md with
     | own k=>
      simp only [CT.inn,RC,jJ] at h1 ⊢;obtain ⟨ao,cap,g1,g2,g3⟩:=h1;refine ⟨ao,cap,g1,g2,?_⟩;rcases g3 with g3|⟨b,o,k1,k2,k3,k4,k5⟩
      ·exact .inl g3
      ·exact .inr ⟨b,o,k1,k2,amb k3 (.inr (by simp)),k4,Jg bq hk (by simp [Pl.at]) (by simp [Pl.at]) k5⟩
     | ro S=>
      simp only [CT.inn,CT.frz,RC,jJ] at h1 ⊢;obtain ⟨ao,cap,g1,g2,g3⟩:=h1;refine ⟨ao,cap,g1,g2,?_⟩;rcases g3 with g3|⟨b,o,k1,k2,k3,k4⟩
      ·exact .inl g3
      ·exact .inr ⟨b,o,k1,bq S b k2,k3,Jg bq hk (by simp [Pl.at]) (by simp [Pl.at]) k4⟩
     | dead=>simp [CT.inn,CT.frz,RC]
def CT.deep:CT->Bool
 | .sl (.own _) e=>!CT.nowns e
 | _=>false
def yZ (cs:aa CT):Nat × aa CT:=if cs.any CT.deep then (2,cs.map CT.inn) else (1,CT.frzs cs)
theorem avF (cs:aa CT):(yZ cs).2.length=cs.length:=by
 unfold yZ;split<;>simp [jJ]
theorem avG {κ:aQ} {w:aA} {t:Nat} {cs:aa CT} {get:Nat->aj} {as:aa A} (h:aB κ w cs (t,[]) 0 get as):aB (yY t (yZ cs).1 κ) w (yZ cs).2 (t,[]) 0 get as:=by
 unfold yZ;split
 ·exact ay1 h
 ·exact abS (t:=t) (m:=1) (fun S b hb=>⟨hb.1,fun r q hq=>hb.2 r q (NQ hq)⟩) (fun b q hb hq=>by simp [yY,hb,hq]) rfl (by simp) h
def Yb (N:Nat) (g:Nat->TT) (t:Nat):ah Stp:=
 match g t with
 | .val ag cs=>if t<N/\iD (yZ cs).2=true then some ⟨[(t,.val ag (yZ cs).2)],fun T=>T.kill [t] [],[t],.det (iH t)⟩ else none
 | _=>none
theorem aC4 {ac:Nat->Nat->aj} {κ0 κ:aQ} {w0 w:aA} {N:Nat} {tg:Nat->TT} {sv:Nat->AV} {tm:Nat->aj} (h:R ac κ0 w0 κ w N tg sv tm) {t:Nat} {ag:Bool} {cs:aa CT} (ht:tg t = .val ag cs) (lG:t<N) (ji:iD (yZ cs).2=true) :
  R ac κ0 w0 (yY t (yZ cs).1 κ) w N (aG (fun u=>(tg u).kill [t] []) [(t,.val ag (yZ cs).2)]) sv tm:=by
 refine uf (mods:=[t]) (M:=[]) h ?_ (fun S hS b hb=>⟨⟨hb.1,fun r q hq=>hb.2 r q (NQ hq)⟩,Same.refl w b⟩) (fun b r q hr hb => ?_) (fun r hr => ?_) (fun _ _=>rfl) (fun _ _=>rfl) (fun u hu => ?_) (fun u hu => ?_) (fun b hb=>adb (h.col b hb)) ?_
 ·have:=h.nle;simp only [cK];omega
 ·simp only [cK] at hr;exact ⟨by rw [hb];exact amb hb (.inl hr),Same.refl w b⟩
 ·simp only [cK] at hr;left;simp [aG,hr]
 ·simp only [cK] at hu;subst hu;have h1:=h.tr u;rw [ht] at h1;simp only [TR] at h1;obtain ⟨as,vs,g1,g2,g3,_,g5⟩:=h1;simp only [aG,if_true,TR];exact ⟨as,vs,g1,g2,by rw [g3,avF],gp ji,avG g5⟩
 ·have:u≠t:=by omega
  simp only [aG,if_neg this,h.out u hu];rfl
 ·refine ⟨h.fr.size,fun b hb h0 => ?_,h.fr.os,h.fr.out,h.fr.tape⟩;have:=h.fr.kept b hb h0;exact ⟨adb this.1,this.2⟩
theorem aAj {P:aS} {N:Nat} {g:Nat->TT} {o:bP} {t:Nat} {S1 S2:Stp} (h1:Yb N g t=some S1) (h2:ek P N o (Bt g S1) S2) (hv:∀s v,S2.eff.rel P s v->v.length<=S2.up.length) :
  ek P N o g (Stp.take t S1 S2):=by
 intro ac κ0 κ w0 w tg sv s a v next Q hN hR hL hv0 bU;simp only [Stp.take] at hv0;obtain ⟨s1,mY,pX⟩:=Eff.pre_rel hv0;simp only [RJ] at mY;split at mY;case h_2=>cases mY
 case h_1 as jU=>
 cases mY;unfold Yb at h1;split at h1;case h_2=>cases h1
 case h_1 ag cs hT=>
 split at h1;case isFalse=>cases h1
 case isTrue hc=>
 cases h1;obtain ⟨e1,e2⟩:=hL.at hT (by simp);have jk:=aC4 hR e1 hc.1 hc.2;have gP:s t = .v as []:=by
  have h5:=hR.tr t;rw [e1] at h5;simp only [TR] at h5;obtain ⟨as',vs,k1,_⟩:=h5;rw [e2] at k1;obtain ⟨is,pg⟩:=cO jU;rw [k1] at pg;cases pg;exact k1
 have mX:upd s t (.v as [])=s:=by
  funext u;unfold upd;split
  ·rename_i hu;rw [hu,gP]
  ·rfl
 rw [mX] at pX;have hL':Le (Bt g ⟨[(t,.val ag (yZ cs).2)],fun T=>T.kill [t] [],[t],.det (iH t)⟩) s (aG (fun u=>(tg u).kill [t] []) [(t,.val ag (yZ cs).2)]) sv:=by
  intro u;simp only [Bt,aG];by_cases Fv:u=t
  ·right;subst Fv;exact ⟨by simp,e2.symm⟩
  ·simp only [if_neg Fv];rcases hL u with h3|⟨h3,h4⟩
   ·left;rw [h3];rfl
   ·right;exact ⟨by rw [h3],h4⟩
 refine h2 ac κ0 _ w0 w _ sv s a v next Q hN jk hL' pX fun x w' κ'' tg'' sv'' akh abt abu => ?_
 have Cb:=hv _ _ pX;refine bU x w' κ'' tg'' sv'' akh (fun u => ?_) (fun u => ?_)
 ·rw [abt u];simp only [Stp.take];rw [Dr];by_cases hu:u∈S2.up.map (·.1)
  ·exact bJ.upds_in hu
  ·rw [bJ.upds_out hu,bJ.upds_out hu];simp only [aG,bv,bI];split<;>rfl
 ·rw [abu u];simp only [Stp.take];have hz:((S2.up++[(t,TT.val ag (yZ cs).2)].map fun p=>(p.1,S2.kl p.2)).map (·.1)).zip v=(S2.up.map (·.1)).zip v:=by
   rw [uH];exact Je (by simpa using Cb)
  rw [hz]
end Go.Fw
namespace Go.Fw
def MH (a b:ah Stp):ah Stp:=
 match a with
 | some x=>some x
 | none=>b
theorem lY {a b:ah Stp} {S:Stp} (h:MH a b=some S):a=some S\/b=some S:=by
 unfold MH at h;split at h
 ·exact .inl h
 ·exact .inr h
def Eff.cap (n:Nat):Eff->Eff
 | .det f=>.det fun s=>match f s with
  | some v=>if v.length<=n/\0<v.length then some v else none
  | none=>none
 | .call K sg args post=>.call K sg args fun res outs s=>match post res outs s with
  | some v=>if v.length<=n/\0<v.length then some v else none
  | none=>none
theorem Eff.cap_rel {P:aS} {n:Nat} {E:Eff} {s:Nat->AV} {v:aa AV} (h:(E.cap n).rel P s v):E.rel P s v/\v.length<=n/\0<v.length:=by
 cases E with
 | det f=>
  simp only [Eff.cap,Eff.rel] at h ⊢;split at h
  ·rename_i v' hv;split at h
   ·cases h;exact ⟨hv,by assumption⟩
   ·cases h
  ·cases h
 | call K sg args post=>
  simp only [Eff.cap,Eff.rel] at h ⊢;obtain ⟨as,res,outs,h1,h2,h3⟩:=h;split at h3
  ·rename_i v' hv;split at h3
   ·cases h3;exact ⟨⟨as,res,outs,h1,h2,hv⟩,by assumption⟩
   ·cases h3
  ·cases h3
def Stp.cap (S:Stp):Stp:=⟨S.up,S.kl,S.rd,S.eff.cap S.up.length⟩
theorem aAk {P:aS} {N:Nat} {o:bP} {g:Nat->TT} {S:Stp} (h:ek P N o g S):ek P N o g S.cap:=by
 intro ac κ0 κ w0 w tg sv s a v next Q hN hR hL hv bU;exact h ac κ0 κ w0 w tg sv s a v next Q hN hR hL (Eff.cap_rel hv).1 bU
def avH (P:aS) (sigs:FuncId->ah aL) (N:Nat) (g:Nat->TT) (fe:Bool) (o:bP):ah Stp:=
 match o.op with
 | .move _=>yS P N g fe o
 | .assign _=>MH (agY N g fe o) (yS P N g fe o)
 | .nilCheck _=>yS P N g fe o
 | .alloc _=>X0 P N g o
 | .box _ _=>X0 P N g o
 | .build _ _=>VW P N g o
 | .buildSlice _ _ _=>agK P N g o
 | .load _ _=>abI P N g o
 | .store _ _ _=>MH (VU P N g o) (NP P N g o)
 | .fieldAddr _ _ _=>VP P N g o
 | .indexAddr _ _ _=>VQ P N g o
 | .makeSlice _ _ _=>abL P N g o
 | .extract _ _=>MH (abR N g o) (agV N g o)
 | .field _ _ _=>MH (ag5 P N g o) (vR P N g o)
 | .slice _ _ _ _ _=>MH (abQ P N g fe o) (MH (abO P N g fe o) (MH (agW P N g o) (vR P N g o)))
 | .binOp _ _ _ _ _=>MH (ag1 P N g o) (vR P N g o)
 | .convert _ _ _=>vR P N g o
 | .call c=>match c.callee with
  | .builtin .append=>NJ P N g o
  | .builtin _=>MH (agF P N g o) (vR P N g o)
  | _=>MH (abM P sigs N g o) (VX P sigs N g o)
 | _=>vR P N g o
theorem ay2 {P:aS} {sigs:FuncId->ah aL} {N:Nat} {g:Nat->TT} {fe:Bool} {o:bP} {S:Stp} (h:avH P sigs N g fe o=some S):ek P N o g S:=by
 unfold avH at h;split at h<;>first
  | exact XX h
  | exact arK h
  | exact akE h
  | exact arN h
  | exact aoH h
  | exact akB h
  | exact akC h
  | exact aoM h
  | exact wO h
  | (split at h
     ·exact agG h
     ·rcases lY h with h|h
      ·exact arL h
      ·exact wO h
     ·rcases lY h with h|h
      ·exact aoO h
      ·exact akF h)
  | (rcases lY h with h|h
     ·exact aoS h
     ·exact arW h)
  | (rcases lY h with h|h
     ·exact ar4 h
     ·exact wO h)
  | (rcases lY h with h|h
     ·exact arZ h
     ·exact XX h)
  | (rcases lY h with h|h
     ·exact akD h
     ·exact ag4 h)
  | (rcases lY h with h|h
     ·exact ar1 h
     ·exact wO h)
  | (rcases lY h with h|h
     ·exact aoR h
     ·rcases lY h with h|h
      ·exact aoQ h
      ·rcases lY h with h|h
       ·exact arY h
       ·exact wO h)
def TT.isDead:TT->Bool
 | .dead=>true
 | _=>false
theorem FM {T:TT} (h:T.isDead=true):T = .dead:=by cases T<;>simp [TT.isDead] at h;rfl
def abT (P:aS) (sigs:FuncId->ah aL) (N:Nat) (fe:Bool) (o:bP):(Nat->TT)->aa Nat->ah Stp
 | g,[]=>match avH P sigs N g fe o with
  | some S=>if S.kl .dead |>.isDead then some S.cap else none
  | none=>none
 | g,t::ts=>match vT N g t with
  | some S1=>match abT P sigs N fe o (Bt g S1) ts with
   | some S2=>if (S2.up.map (·.1)).contains t then some (Stp.take t S1 S2) else none
   | none=>none
  | none=>match Yb N g t with
   | some S1=>match abT P sigs N fe o (Bt g S1) ts with
    | some S2=>some (Stp.take t S1 S2)
    | none=>none
   | none=>none
theorem amc {S1:Stp} {N:Nat} {g:Nat->TT} {t:Nat} (h1:vT N g t=some S1):S1.kl .dead = .dead:=by
 unfold vT at h1;split at h1;case h_2=>cases h1
 case h_1 ag cs0 r off S0 hT=>
 split at h1
 ·split at h1
  ·cases h1;rfl
  ·cases h1
 ·split at h1
  ·cases h1;rfl
  ·cases h1
 ·cases h1
theorem abU {P:aS} {sigs:FuncId->ah aL} {N:Nat} {fe:Bool} {o:bP}:∀{ts:aa Nat} {g:Nat->TT} {S:Stp},abT P sigs N fe o g ts=some S ->
  ek P N o g S/\S.kl .dead = .dead/\∀s v,S.eff.rel P s v->v.length<=S.up.length/\0<v.length
 | [],g,S,h=>by
  simp only [abT] at h
  split at h
  case h_2=>cases h
  case h_1 S' hS=>
  split at h
  case isFalse=>cases h
  case isTrue hd=>
  cases h
  exact ⟨aAk (ay2 hS),FM hd,fun s v hv=>(Eff.cap_rel hv).2⟩
 | t::ts,g,S,h=>by
  simp only [abT] at h
  split at h
  case h_2=>
   split at h
   case h_2=>cases h
   case h_1 S1 h1=>
   split at h
   case h_2=>cases h
   case h_1 S2 h2=>
   cases h
   obtain ⟨k1,k2,k3⟩:=abU h2
   have hk:S1.kl .dead = .dead:=by
    unfold Yb at h1;split at h1
    ·split at h1
     ·cases h1;rfl
     ·cases h1
    ·cases h1
   refine ⟨aAj h1 k1 (fun s v hv=>(k3 s v hv).1),by simp only [Stp.take];rw [hk,k2],fun s v hv => ?_⟩
   obtain ⟨s1,_,hr⟩:=Eff.pre_rel hv
   have:=k3 _ _ hr
   simp only [Stp.take,dP]
   omega
  case h_1 S1 h1=>
  split at h
  case h_2=>cases h
  case h_1 S2 h2=>
  split at h
  case isFalse=>cases h
  case isTrue hc=>
  cases h
  obtain ⟨k1,k2,k3⟩:=abU h2
  refine ⟨ayY h1 (amc h1) k2 k1 (by simpa using hc) (fun s v hv=>(k3 s v hv).1),by simp only [Stp.take];rw [amc h1,k2],fun s v hv => ?_⟩
  obtain ⟨s1,_,hr⟩:=Eff.pre_rel hv
  have:=k3 _ _ hr
  simp only [Stp.take,dP]
  omega
end Go.Fw
namespace Go.Fw
mutual
def CT.pure:CT->Bool
 | .d=>true
 | .sl (.own none) e=>CT.pures e
 | .sl _ _=>false
def CT.pures:aa CT->Bool
 | []=>true
 | c::cs=>c.pure&&CT.pures cs
end
end Go.Fw
namespace Go.Fw
section
variable {κ κ':aQ} {w:aA} {t:Nat} {p0:aa Nat}
mutual
theorem amd (bq:∀S b,bg κ w S b->bg κ' w S b) (hk:∀b q,κ b=some (t,q)->p0 <+: q->κ' b=none):∀{c:CT} {p:Pl} {x:aj} {a:A},p.1=t->p0 <+: p.2->RC κ w c p x a->RC κ' w c.frz p x a
 | .d,_,_,.v _,_,_,h=>by simpa only [CT.frz,RC] using h
 | .d,_,_,.s _,_,_,h=>by simp [RC] at h
 | .sl (.own k) e,p,x,.s xs,hp,hm,h=>by
  simp only [CT.frz,RC,jJ] at h ⊢;obtain ⟨ao,cap,h1,h2,h3⟩:=h;refine ⟨ao,cap,h1,h2,?_⟩;rcases h3 with ⟨rfl,rfl⟩|⟨b,o,g1,g2,g3,g4,g5⟩
  ·left;exact qL.1 (by omega)
  ·right;have hb:κ' b=none:=hk b p.2 (by rw [g3,<-hp]) hm;refine ⟨b,o,g1,⟨g2,fun r q hq=>by rw [hb] at hq;cases hq⟩,fun o' h1 Bq=>(g4 o' h1 ?_).1,VZ bq hk hp hm g5⟩;have:=jE e.length h2;omega
 | .sl (.ro S) e,p,x,.s xs,hp,hm,h=>by
  simp only [CT.frz,RC,jJ] at h ⊢;obtain ⟨ao,cap,h1,h2,h3⟩:=h;refine ⟨ao,cap,h1,h2,?_⟩;rcases h3 with h3|⟨b,o,g1,g2,g3,g4⟩
  ·exact .inl h3
  ·exact .inr ⟨b,o,g1,bq S b g2,g3,VZ bq hk hp hm g4⟩
 | .sl .dead e,p,x,.s xs,_,_,h=>by simp [CT.frz,RC]
 | .sl .dead e,p,x,.v _,_,_,h=>by simp [CT.frz,RC]
 | .sl (.own k) e,p,x,.v _,_,_,h=>by simp [RC] at h
 | .sl (.ro S) e,p,x,.v _,_,_,h=>by simp [RC] at h
theorem ag6 (bq:∀S b,bg κ w S b->bg κ' w S b) (hk:∀b q,κ b=some (t,q)->p0 <+: q->κ' b=none):∀{cs:aa CT} {p:Pl} {j:Nat} {get:Nat->aj} {as:aa A},p.1=t->p0 <+: p.2->aB κ w cs p j get as->aB κ' w (CT.frzs cs) p j get as
 | [],_,_,_,[],_,_,_=>by simp [CT.frzs,aB]
 | [],_,_,_,_::_,_,_,h=>by simp [aB] at h
 | c::cs,p,j,get,[],_,_,h=>by simp [aB] at h
 | c::cs,p,j,get,a::as,hp,hm,h=>by
  simp only [CT.frzs,aB] at h ⊢;exact ⟨amd bq hk (by simpa [Pl.at] using hp) (hm.trans (by simp [Pl.at])) h.1,ag6 bq hk hp hm h.2⟩
theorem VZ (bq:∀S b,bg κ w S b->bg κ' w S b) (hk:∀b q,κ b=some (t,q)->p0 <+: q->κ' b=none):∀{e:aa CT} {p:Pl} {j:Nat} {get:Nat->aj} {xs:aa (aa A)},p.1=t->p0 <+: p.2->dz κ w e p j get xs->dz κ' w (CT.frzs e) p j get xs
 | _,_,_,_,[],_,_,_=>by simp [dz]
 | e,p,j,get,x::xs,hp,hm,h=>by
  simp only [dz,jJ] at h ⊢;exact ⟨ag6 bq hk hp hm h.1,VZ bq hk hp hm h.2⟩
end
end
def qN:Nat->aa CT->aa CT
 | 0,c::cs=>c.frz::cs
 | k+1,c::cs=>c::qN k cs
 | _,[]=>[]
theorem adc:∀(k:Nat) (cs:aa CT),(qN k cs).length=cs.length
 | 0,c::cs=>rfl
 | k+1,c::cs=>by simp [qN,adc k cs]
 | 0,[]=>rfl
 | _+1,[]=>rfl
def Dt (t k:Nat) (κ:aQ):aQ:=fun b=>
 match κ b with
 | some (r,m::q)=>if r=t/\m=k then none else some (r,m::q)
 | x=>x
theorem ade {t k:Nat} {κ:aQ} {b:Nat} (h:κ b=none):Dt t k κ b=none:=by simp [Dt,h]
theorem adf {t k:Nat} {κ:aQ} {b r:Nat} {q:aa Nat} (h:Dt t k κ b=some (r,q)):κ b=some (r,q):=by
 unfold Dt at h;split at h
 ·rename_i hk;split at h
  ·cases h
  ·rw [hk];exact h
 ·exact h
theorem RL {t k:Nat} {κ:aQ} {b r:Nat} {q:aa Nat} (h:κ b=some (r,q)) (hr:r≠t\/∀q',q≠k::q'):Dt t k κ b=some (r,q):=by
 unfold Dt;split
 ·rename_i r' m q' hk;rw [h] at hk;cases hk;rw [if_neg (by rintro ⟨h1,h2⟩;rcases hr with hr|hr<;>first|exact hr h1|exact hr q' (by rw [h2]))]
 ·exact h
mutual
theorem ag7 {P:aa Nat->Prop} (h:∀S,P S):∀c:CT,c.allS P
 | .d=>by simp [CT.allS]
 | .sl (.ro S) e=>by simp only [CT.allS];exact ⟨h S,AO h e⟩
 | .sl (.own _) e=>by simp only [CT.allS];exact AO h e
 | .sl .dead e=>by simp only [CT.allS];exact AO h e
theorem AO {P:aa Nat->Prop} (h:∀S,P S):∀cs:aa CT,CT.allSs P cs
 | []=>by simp [CT.allSs]
 | c::cs=>by simp only [CT.allSs];exact ⟨ag7 h c,AO h cs⟩
end
theorem abV {κ:aQ} {w:aA} {t k0:Nat} (S:aa Nat) (b:Nat) (hb:bg κ w S b):bg (Dt t k0 κ) w S b:=⟨hb.1,fun r q hq=>hb.2 r q (adf hq)⟩
theorem ay3 {κ:aQ} {t k0:Nat} (b:Nat) (q:aa Nat) (hb:κ b=some (t,q)) (hq:[k0] <+: q):Dt t k0 κ b=none:=by
 obtain ⟨q',rfl⟩:=hq;simp [Dt,hb]
theorem adg {κ:aQ} {w:aA} {t k0:Nat}:∀{cs:aa CT} {j k:Nat} {get:Nat->aj} {as:aa A},k0=j+k->aB κ w cs (t,[]) j get as->aB (Dt t k0 κ) w (qN k cs) (t,[]) j get as
 | [],j,k,get,[],_,_=>by cases k<;>simp [aB,qN]
 | [],j,k,get,_::_,_,h=>by simp [aB] at h
 | c::cs,j,k,get,[],_,h=>by simp [aB] at h
 | c::cs,j,0,get,a::as,hj,h=>by
  simp only [qN,aB] at h ⊢;refine ⟨amd abV ay3 rfl (by simp [Pl.at,hj]) h.1,?_⟩;refine VL (AO (fun S b hb=>⟨abV S b hb,Same.refl w b⟩) cs) (fun i hi b q hb => ?_) (fun _ _=>rfl) h.2;refine ⟨?_,Same.refl w b⟩;rw [hb];exact RL hb (.inr fun q' hq=>by simp only [gQ,Rs] at hq;omega)
 | c::cs,j,k+1,get,a::as,hj,h=>by
  simp only [qN,aB] at h ⊢;refine ⟨?_,adg (by omega) h.2⟩;refine vN (ag7 (fun S b hb=>⟨abV S b hb,Same.refl w b⟩) c) (fun b q hb => ?_) h.1;refine ⟨?_,Same.refl w b⟩;rw [hb];exact RL hb (.inr fun q' hq=>by simp only [Pl.at,gQ,mZ,Rs] at hq;omega)
def RN (N:Nat) (g:Nat->TT) (r k:Nat):ah Stp:=
 match g r with
 | .box cs=>if r<N/\iD (qN k cs)=true then some ⟨[(r,.box (qN k cs))],fun T=>T.kill [r] [],[r],.det fun _=>none⟩ else none
 | _=>none
theorem aAl {ac:Nat->Nat->aj} {κ0 κ:aQ} {w0 w:aA} {N:Nat} {tg:Nat->TT} {sv:Nat->AV} {tm:Nat->aj} (h:R ac κ0 w0 κ w N tg sv tm) {r k:Nat} {cs:aa CT} (ht:tg r = .box cs) (lG:r<N) (ji:iD (qN k cs)=true) :
  R ac κ0 w0 (Dt r k κ) w N (aG (fun u=>(tg u).kill [r] []) [(r,.box (qN k cs))]) sv tm:=by
 refine uf (mods:=[r]) (M:=[]) h ?_ (fun S hS b hb=>⟨⟨hb.1,fun r q hq=>hb.2 r q (adf hq)⟩,Same.refl w b⟩) (fun b r' q hr hb => ?_) (fun r' hr => ?_) (fun _ _=>rfl) (fun _ _=>rfl) (fun u hu => ?_) (fun u hu => ?_) (fun b hb=>ade (h.col b hb)) ?_
 ·have:=h.nle;simp only [cK];omega
 ·simp only [cK] at hr;exact ⟨by rw [hb];exact RL hb (.inl hr),Same.refl w b⟩
 ·simp only [cK] at hr;left;simp [aG,hr]
 ·simp only [cK] at hu;subst hu;have h1:=h.tr u;rw [ht] at h1;simp only [TR] at h1;obtain ⟨as,b,g1,g2,g3,g4,g5,g6,g7⟩:=h1;simp only [aG,if_true,TR];exact ⟨as,b,g1,g2,g3,RL g4 (.inr fun q' hq=>by cases hq),by rw [adc];exact g5,gp ji,adg (by omega) g7⟩
 ·have:u≠r:=by omega
  simp only [aG,if_neg this,h.out u hu];rfl
 ·refine ⟨h.fr.size,fun b hb h0 => ?_,h.fr.os,h.fr.out,h.fr.tape⟩;have:=h.fr.kept b hb h0;exact ⟨ade this.1,this.2⟩
def Stp.frzB (r:Nat) (S1 S2:Stp):Stp:=⟨S2.up++S1.up.map (fun p=>(p.1,S2.kl p.2)),fun T=>S2.kl (S1.kl T),r::S2.rd,S2.eff⟩
theorem ay4 {P:aS} {N:Nat} {g:Nat->TT} {o:bP} {r k:Nat} {S1 S2:Stp} (h1:RN N g r k=some S1) (h2:ek P N o (Bt g S1) S2) (hv:∀s v,S2.eff.rel P s v->v.length<=S2.up.length) :
  ek P N o g (Stp.frzB r S1 S2):=by
 intro ac κ0 κ w0 w tg sv s a v next Q hN hR hL pX bU;simp only [Stp.frzB] at pX;unfold RN at h1;split at h1;case h_2=>cases h1
 case h_1 cs hT=>
 split at h1;case isFalse=>cases h1
 case isTrue hc=>
 cases h1;obtain ⟨e1,e2⟩:=hL.at hT (by simp);have jk:=aAl (k:=k) hR e1 hc.1 hc.2;have hL':Le (Bt g ⟨[(r,.box (qN k cs))],fun T=>T.kill [r] [],[r],.det fun _=>none⟩) s (aG (fun u=>(tg u).kill [r] []) [(r,.box (qN k cs))]) sv:=by
  intro u;simp only [Bt,aG];by_cases Fv:u=r
  ·right;subst Fv;exact ⟨by simp,e2.symm⟩
  ·simp only [if_neg Fv];rcases hL u with h3|⟨h3,h4⟩
   ·left;rw [h3];rfl
   ·right;exact ⟨by rw [h3],h4⟩
 refine h2 ac κ0 _ w0 w _ sv s a v next Q hN jk hL' pX fun x w' κ'' tg'' sv'' akh abt abu => ?_
 have Cb:=hv _ _ pX;refine bU x w' κ'' tg'' sv'' akh (fun u => ?_) (fun u => ?_)
 ·rw [abt u];simp only [Stp.frzB];rw [Dr];by_cases hu:u∈S2.up.map (·.1)
  ·exact bJ.upds_in hu
  ·rw [bJ.upds_out hu,bJ.upds_out hu];simp only [aG,bv,bI];split<;>rfl
 ·rw [abu u];simp only [Stp.frzB];have hz:((S2.up++[(r,TT.box (qN k cs))].map fun p=>(p.1,S2.kl p.2)).map (·.1)).zip v=(S2.up.map (·.1)).zip v:=by
   rw [uH];exact Je (by simpa using Cb)
  rw [hz]
def ag8 (P:aS) (sigs:FuncId->ah aL) (N:Nat) (fe:Bool) (o:bP):aa Nat->(Nat->TT)->aa Nat->ah Stp
 | [],g,tk=>abT P sigs N fe o g tk
 | x::xs,g,tk=>match Nat.ble 4000000000 x with
  | true=>match xs,tk with
   | _,_=>none
  | false=>match RN N g (x % 1000000000 / 1000) (x % 1000) with
   | some S1=>match ag8 P sigs N fe o xs (Bt g S1) tk with
    | some S2=>some (Stp.frzB (x % 1000000000 / 1000) S1 S2)
    | none=>none
   | none=>none
theorem ame {P:aS} {sigs:FuncId->ah aL} {N:Nat} {fe:Bool} {o:bP}:∀{xs:aa Nat} {g:Nat->TT} {tk:aa Nat} {S:Stp},ag8 P sigs N fe o xs g tk=some S ->
  ek P N o g S/\S.kl .dead = .dead/\∀s v,S.eff.rel P s v->v.length<=S.up.length/\0<v.length
 | [],g,tk,S,h=>abU (by simpa only [ag8] using h)
 | x::xs,g,tk,S,h=>by
  simp only [ag8] at h
  split at h
  case h_1=>cases h
  case h_2=>
  split at h
  case h_2=>cases h
  case h_1 S1 h1=>
  split at h
  case h_2=>cases h
  case h_1 S2 h2=>
  cases h
  obtain ⟨k1,k2,k3⟩:=ame h2
  have hk:S1.kl .dead = .dead:=by
   unfold RN at h1;split at h1
   ·split at h1
    ·cases h1;rfl
    ·cases h1
   ·cases h1
  refine ⟨ay4 h1 k1 (fun s v hv=>(k3 s v hv).1),by simp only [Stp.frzB];rw [hk,k2],fun s v hv => ?_⟩
  have:=k3 s v hv
  simp only [Stp.frzB,dP]
  omega
end Go.Fw
namespace Go.Fw
structure OpR where
 S:Bool->Stp
 cb:(Nat->AV)->Option Bool
 up:List (Nat × TT)
 d:Option Nat
 gd:Option (Nat × Bool)
 g:Bool->Nat->TT
 Xu:List Nat
 pk:Option Nat
def rQ (rs:aa OpR) (i:Nat):aa (Nat × TT):=match rs[i]? with
 | some o=>o.up
 | none=>[]
def AP (rs:aa OpR) (i:Nat):ah Nat:=match rs[i]? with
 | some o=>o.d
 | none=>none
def bD (rs:aa OpR) (bef:Nat->Nat->Bool) (D0:Nat->TT) (s0:Nat->AV) (np:Nat->Bool) (px:Nat->aj) (wl:aa Bool) (vl:aa (aa AV)):bJ:=
 ⟨rs.length,rQ rs,AP rs,bef,D0,s0,fun i=>wl.getD i false,fun i=>vl.getD i [],np,px⟩
def kK (s:Nat->AV) (t:Nat):ah Bool:=
 match s t with
 | .v [.v (.bool c)] _=>some c
 | _=>none
def nS (rs:aa OpR) (wl:aa Bool) (s:Nat->AV) (o:OpR):Bool:=
 match o.gd with
 | none=>true
 | some (j,b)=>wl.getD j false&&(match AP rs j with
  | some t=>(match kK s t with
   | some c=>c == b
   | none=>false)
  | none=>false)
def wR (P:aS) (rs:aa OpR):aa OpR->aa Bool->(Nat->AV)->((Nat->AV)->Prop)->Prop
 | [],_,s,K=>K s
 | o::os,wl,s,K=>if nS rs wl s o then ∃b v,o.cb s=some b/\(o.S b).eff.rel P s v/\wR P rs os (wl++[true]) (aG s ((o.up.map (·.1)).zip v)) K
  else wR P rs os (wl++[false]) s K
def allT:Nat->Bool:=fun _=>true
theorem ag9 {r r':bJ} (h0:r.s0=r'.s0) (L:Nat->Bool):∀k,(∀j,j<k->r.up j=r'.up j/\r.wn j=r'.wn j/\(r.wn j=true->r.vv j=r'.vv j))->r.sL L k=r'.sL L k:=by
 intro k;induction k with
 | zero=>intro _;exact h0
 | succ k ih=>
  intro h;have ih:=ih fun j hj=>h j (by omega)
  obtain ⟨h1,h2,h3⟩:=h k (by omega);simp only [bJ.sL,bJ.sS,ih,h1,h2];cases hw:r'.wn k with
  | false=>rfl
  | true=>rw [h3 (by rw [h2,hw])]
section
variable {P:aS} {rs:aa OpR} {bef:Nat->Nat->Bool} {D0:Nat->TT} {s0:Nat->AV} {np:Nat->Bool} {px:Nat->aj} {K:(Nat->AV)->Prop}
theorem uk {α:Type} {l m:aa α} {j:Nat} {x:α} (h:j<l.length):(l++m).getD j x=l.getD j x:=by
 simp only [dw,rE h]
theorem amf (G9:∀(i:Nat) (o:OpR) (j:Nat) (b:Bool),rs[i]?=some o->o.gd=some (j,b)->j<i):∀{os pre:aa OpR} {wl:aa Bool} {vl:aa (aa AV)},rs=pre++os->wl.length=pre.length->vl.length=pre.length ->
  wR P rs os wl ((bD rs bef D0 s0 np px wl vl).sL allT pre.length) K ->
  ∃wl' vl',(∀j,j<pre.length->wl'.getD j false=wl.getD j false/\vl'.getD j []=vl.getD j [])/\K ((bD rs bef D0 s0 np px wl' vl').sL allT rs.length) /\
   ∀i o,pre.length<=i->rs[i]?=some o->wl'.getD i false=nS rs wl' ((bD rs bef D0 s0 np px wl' vl').sL allT i) o /\
    (wl'.getD i false=true->∃b,o.cb ((bD rs bef D0 s0 np px wl' vl').sL allT i)=some b/\(o.S b).eff.rel P ((bD rs bef D0 s0 np px wl' vl').sL allT i) (vl'.getD i []))
 | [],pre,wl,vl,lh,h1,h2,h=>by
  simp only [m_] at lh
  refine ⟨wl,vl,fun j _=>⟨rfl,rfl⟩,?_,fun i o hi ho => ?_⟩
  ·simp only [wR] at h
   rw [show rs.length=pre.length from by rw [lh]];exact h
  ·have:=(aZ ho).1
   rw [lh] at this;omega
 | o::os,pre,wl,vl,lh,h1,h2,h=>by
  have ho:rs[pre.length]?=some o:=by rw [lh];simp
  have mX:rQ rs pre.length=o.up:=by unfold rQ;rw [ho]
  -- one more
  have step:∀(x:Bool) (v:aa AV),wR P rs os (wl++[x]) ((bD rs bef D0 s0 np px (wl++[x]) (vl++[v])).sL allT (pre++[o]).length) K ->
    (x=nS rs wl ((bD rs bef D0 s0 np px wl vl).sL allT pre.length) o)->(x=true->∃b,o.cb ((bD rs bef D0 s0 np px wl vl).sL allT pre.length)=some b/\(o.S b).eff.rel P ((bD rs bef D0 s0 np px wl vl).sL allT pre.length) v) ->
    ∃wl' vl',(∀j,j<pre.length->wl'.getD j false=wl.getD j false/\vl'.getD j []=vl.getD j [])/\K ((bD rs bef D0 s0 np px wl' vl').sL allT rs.length) /\
     ∀i o,pre.length<=i->rs[i]?=some o->wl'.getD i false=nS rs wl' ((bD rs bef D0 s0 np px wl' vl').sL allT i) o /\
      (wl'.getD i false=true->∃b,o.cb ((bD rs bef D0 s0 np px wl' vl').sL allT i)=some b/\(o.S b).eff.rel P ((bD rs bef D0 s0 np px wl' vl').sL allT i) (vl'.getD i [])):=by
   intro x v hW hx hv;obtain ⟨wl',vl',k1,k2,k3⟩:=amf G9 (os:=os) (pre:=pre++[o]) (wl:=wl++[x]) (vl:=vl++[v]) (by rw [lh];simp) (by simp [h1]) (by simp [h2]) hW;have gK:∀j,j<pre.length->wl'.getD j false=wl.getD j false/\vl'.getD j []=vl.getD j []:=fun j hj=>by
    obtain ⟨g1,g2⟩:=k1 j (by simp;omega);rw [uk (by omega)] at g1 g2;exact ⟨g1,g2⟩
   refine ⟨wl',vl',gK,k2,fun i o' hi pq => ?_⟩;by_cases hii:i=pre.length
   ·subst hii;rw [ho] at pq;cases pq;have hs:(bD rs bef D0 s0 np px wl' vl').sL allT pre.length=(bD rs bef D0 s0 np px wl vl).sL allT pre.length:=ag9 (r:=bD rs bef D0 s0 np px wl' vl') (r':=bD rs bef D0 s0 np px wl vl) rfl allT pre.length fun j hj=>⟨rfl,(gK j hj).1,fun _=>(gK j hj).2⟩
    obtain ⟨g1,g2⟩:=k1 pre.length (by simp);have e1:(wl++[x]).getD pre.length false=x:=by rw [<-h1];simp [dw]
    have e2:(vl++[v]).getD pre.length []=v:=by rw [<-h2];simp [dw]
    rw [e1] at g1;rw [e2] at g2;rw [hs,g1,g2];refine ⟨?_,hv⟩;rw [hx];unfold nS;cases hg:o.gd with
    | none=>rfl
    | some p=>
     obtain ⟨j,b⟩:=p;have:=G9 _ _ _ _ ho hg;simp only;rw [(gK j this).1]
   ·exact k3 i o' (by simp;omega) pq
  simp only [wR] at h
  split at h
  ·rename_i hw
   obtain ⟨b,v,hb,pX,hW⟩:=h
   refine step true v ?_ hw.symm fun _=>⟨b,hb,pX⟩
   have:(bD rs bef D0 s0 np px (wl++[true]) (vl++[v])).sL allT (pre++[o]).length=aG ((bD rs bef D0 s0 np px wl vl).sL allT pre.length) ((o.up.map (·.1)).zip v):=by
    rw [dP,Ka]
    simp only [bJ.sL,allT,if_true]
    have hs:(bD rs bef D0 s0 np px (wl++[true]) (vl++[v])).sL allT pre.length=(bD rs bef D0 s0 np px wl vl).sL allT pre.length:=ag9 (r:=bD rs bef D0 s0 np px (wl++[true]) (vl++[v])) (r':=bD rs bef D0 s0 np px wl vl) rfl _ pre.length fun j hj=>⟨rfl,uk (by omega),fun _=>uk (by omega)⟩
    rw [hs]
    unfold bJ.sS
    have e1:(wl++[true]).getD pre.length false=true:=by rw [<-h1];simp [dw]
    have e2:(vl++[v]).getD pre.length []=v:=by rw [<-h2];simp [dw]
    simp only [bD,e1,e2,mX,if_true]
   rw [this];exact hW
  ·rename_i hw
   refine step false [] ?_ (by simpa using hw) fun hx=>by cases hx
   have:(bD rs bef D0 s0 np px (wl++[false]) (vl++[[]])).sL allT (pre++[o]).length=(bD rs bef D0 s0 np px wl vl).sL allT pre.length:=by
    rw [dP,Ka]
    simp only [bJ.sL,allT,if_true]
    have hs:(bD rs bef D0 s0 np px (wl++[false]) (vl++[[]])).sL allT pre.length=(bD rs bef D0 s0 np px wl vl).sL allT pre.length:=ag9 (r:=bD rs bef D0 s0 np px (wl++[false]) (vl++[[]])) (r':=bD rs bef D0 s0 np px wl vl) rfl _ pre.length fun j hj=>⟨rfl,uk (by omega),fun _=>uk (by omega)⟩
    rw [hs]
    unfold bJ.sS
    have e1:(wl++[false]).getD pre.length false=false:=by rw [<-h1];simp [dw]
    simp only [bD,e1,iK,if_false]
   rw [this];exact h
end
end Go.Fw
namespace Go.Fw
def af9 (a b:Sk):Bool:=decide (a=b)
def TT.beq:TT->TT->Bool
 | .dead,.dead=>true
 | .val a c,.val a' c'=>(a == a')&&CT.beqs c c'
 | .alias a c r sk off S,.alias a' c' r' sk' off' S'=>(a == a')&&CT.beqs c c'&&(r == r')&&af9 sk sk'&&(off == off')&&decide (S=S')
 | .box c,.box c'=>CT.beqs c c'
 | .ptr r sk off S,.ptr r' sk' off' S'=>(r == r')&&af9 sk sk'&&(off == off')&&decide (S=S')
 | .tup ws c,.tup ws' c'=>decide (ws=ws')&&CT.beqs c c'
 | _,_=>false
theorem TT.beq_eq:∀{T T':TT},T.beq T'=true->T=T'
 | .dead,T',h=>by cases T'<;>simp [TT.beq] at h;rfl
 | .val a c,T',h=>by
  cases T'<;>simp [TT.beq] at h;rw [h.1,CT.beqs_eq h.2]
 | .alias a c r sk off S,T',h=>by
  cases T'<;>simp [TT.beq,af9] at h;obtain ⟨⟨⟨⟨⟨h1,h2⟩,h3⟩,h4⟩,h5⟩,h6⟩:=h;rw [h1,CT.beqs_eq h2,h3,h4,h5,h6]
 | .box c,T',h=>by
  cases T'<;>simp [TT.beq] at h;rw [CT.beqs_eq h]
 | .ptr r sk off S,T',h=>by
  cases T'<;>simp [TT.beq,af9] at h;obtain ⟨⟨⟨h3,h4⟩,h5⟩,h6⟩:=h;rw [h3,h4,h5,h6]
 | .tup ws c,T',h=>by
  cases T'<;>simp [TT.beq] at h;rw [h.1,CT.beqs_eq h.2]
def okg (ch:aa (Nat × Bool)):ah (Nat × Bool)->Bool
 | none=>true
 | some p=>ch.contains p
def Jh (D0:Nat->TT) (ch:aa (Nat × Bool)):aa OpR->Nat->TT
 | [],t=>D0 t
 | o::rest,t=>if (o.up.map (·.1)).contains t then (if okg ch o.gd then aG (fun _=>.dead) o.up t else if o.d != some t&&(aG (fun _=>.dead) o.up t).beq (Jh D0 ch rest t) then Jh D0 ch rest t else .dead) else if o.d == some t then .dead else Jh D0 ch rest t
def chR (rs:aa OpR):Nat->ah (Nat × Bool)->aa (Nat × Bool)
 | 0,_=>[]
 | _+1,none=>[]
 | f+1,some (j,b)=>(j,b)::(match rs[rs.length-1-j]? with
  | some o=>chR rs f o.gd
  | none=>[])
section
variable {D0:Nat->TT} {s0:Nat->AV} {np:Nat->Bool} {px:Nat->aj} {bef:Nat->Nat->Bool} {wl:aa Bool} {vl:aa (aa AV)} {rs:aa OpR}
theorem adh {f:Nat->TT} {l:aa (Nat × TT)} {t:Nat} (h:t∈l.map (·.1)):aG f l t=aG (fun _=>.dead) l t:=bJ.upds_in h
theorem ag_ {ch:aa (Nat × Bool)} {L:Nat->Bool}:∀{pre:aa OpR} {post:aa OpR},rs=pre.reverse++post->(∀j,j<pre.length->L j=true) ->
  (∀j o,j<pre.length->rs[j]?=some o->okg ch o.gd=true->wl.getD j false=true)->∀t,Jh D0 ch pre t = .dead\/Jh D0 ch pre t=(bD rs bef D0 s0 np px wl vl).dL L pre.length t
 | [],post,lh,hL,hw,t=>by right;simp [Jh,bJ.dL,bD]
 | o::pre,post,lh,hL,hw,t=>by
  have ho:rs[pre.length]?=some o:=by
   rw [lh];simp
  have mX:rQ rs pre.length=o.up:=by unfold rQ;rw [ho]
  have hd:AP rs pre.length=o.d:=by unfold AP;rw [ho]
  have ih:=ag_ (pre:=pre) (post:=o::post) (ch:=ch) (L:=L) (by rw [lh];simp) (fun j hj=>hL j (by simp;omega)) (fun j o' hj=>hw j o' (by simp;omega)) t
  simp only [Jh,bF,bJ.dL]
  rw [hL pre.length (by simp),if_pos rfl]
  have hds:∀f,(bD rs bef D0 s0 np px wl vl).dS pre.length f t=if wl.getD pre.length false then aG f o.up t else if o.d=some t then .dead else f t:=by
   intro f
   unfold bJ.dS
   rw [show (bD rs bef D0 s0 np px wl vl).up pre.length=o.up from mX,show (bD rs bef D0 s0 np px wl vl).dst pre.length=o.d from hd]
   by_cases hwl:wl.getD pre.length false=true
   ·rw [if_pos hwl,if_pos (show (bD rs bef D0 s0 np px wl vl).wn pre.length=true from hwl)]
   ·rw [if_neg hwl,if_neg (show ¬(bD rs bef D0 s0 np px wl vl).wn pre.length=true from hwl)]
  rw [hds]
  by_cases hm:(o.up.map (·.1)).contains t=true
  ·rw [if_pos hm]
   by_cases hg:okg ch o.gd=true
   ·rw [if_pos hg,hw pre.length o (by simp) ho hg,if_pos rfl]
    right
    exact (adh (by simpa using hm)).symm
   ·rw [if_neg hg]
    split
    ·rename_i hc
     simp only [aU,bne_iff_ne,ne_eq] at hc
     have hbe:=TT.beq_eq hc.2
     cases hwl:wl.getD pre.length false with
     | true=>
      right
      rw [if_pos rfl,adh (by simpa using hm),hbe]
     | false=>
      rw [if_neg (by simp),if_neg hc.1]
      exact ih
    ·exact .inl rfl
  ·rw [if_neg hm]
   by_cases yI:o.d=some t
   ·rw [if_pos (by simpa using yI)];exact .inl rfl
   ·rw [if_neg (by simpa using yI)]
    have Nu:t∉o.up.map (·.1):=by simpa using hm
    rw [bJ.upds_out Nu,if_neg yI]
    split
    ·exact ih
    ·exact ih
end
def idxOf (c:Nat):aa OpR->ah Nat
 | []=>none
 | o::rest=>if o.d == some c then some rest.length else idxOf c rest
def Kv (d c:Nat) (X Y:DX) (b:Bool):Stp:=
 Stp.set d (.val false [.d]) [] (.det fun s=>match kK s c with
  | some v=>if v=b then (match (if b then X else Y).get s with
   | some v=>some [.v [.v v] []]
   | none=>none) else none
  | none=>none)
def alv (D0l:aa TT):aa (TT × Nat):=D0l.zipIdx.filter fun p=>!p.1.isDead
def aw6 (D0l:aa TT) (rs:aa OpR) (dom:aa Nat) (kl:TT->TT) (beq:TT->TT->Bool):aa Nat:=
 ((alv D0l).filterMap fun p=>if dom.contains p.2 || beq (kl p.1) p.1 then none else some p.2) ++
 rs.flatMap fun o=>o.up.filterMap fun p=>if dom.contains p.1 || beq (kl p.2) p.2 then none else some p.1
structure Hint where
 al:Bool
 tk:List Nat
 hd:List Nat
def Du (P:aS) (sigs:FuncId->ah aL) (N:Nat) (D0l:aa TT) (rs:aa OpR) (Xu:aa Nat) (h:Hint) (o:bP):ah OpR:=
 let ch:=chR rs (rs.length+1) o.guard
 let g:=fun t=>if Xu.contains t then .dead else Jh (gt D0l) ch rs t
 match o.op,o.dst with
 | .pick (.tmp c) x y,some d=>
  let chb:=fun b:Bool=>match idxOf c rs with
   | some j=>(match rs[rs.length-1-j]? with
    | some oj=>if okg ch oj.gd then (j,b)::ch else ch
    | none=>ch)
   | none=>ch
  let gb:=fun b:Bool=>fun t=>if Xu.contains t then TT.dead else Jh (gt D0l) (chb b) rs t
  match nR (gb true) x,nR (gb false) y,nR (gb true) (.tmp c),nR (gb false) (.tmp c) with
  | some X,some Y,some _,some _=>if d<N then
    let S:=Kv d c X Y
    let ks:=aw6 D0l rs [d] (S true).kl TT.beq
    some ⟨S,fun s=>kK s c,(S true).up++ks.map (fun t=>(t,.dead)),some d,o.guard,gb,Xu,some c⟩ else none
  | _,_,_,_=>none
 | _,_=>match ag8 P sigs N h.al o (h.hd.filter fun x=>Nat.ble 3000000000 x) g h.tk with
  | some S=>
   let ks:=aw6 D0l rs (S.up.map (·.1)) S.kl TT.beq
   some ⟨fun _=>S,fun _=>some true,S.up++ks.map (fun t=>(t,.dead)),o.dst,o.guard,fun _=>g,Xu,none⟩
  | none=>none
end Go.Fw
namespace Go.Fw
section
variable {α:Type}
def fN (n:Nat) (k:Nat->α):α:=match n with
 | 0=>k 0
 | m+1=>k (m+1)
theorem wS (n:Nat) (k:Nat->α):fN n k=k n:=by cases n<;>rfl
def fB (b:Bool) (k:Bool->α):α:=match b with
 | true=>k true
 | false=>k false
theorem aoT (b:Bool) (k:Bool->α):fB b k=k b:=by cases b<;>rfl
def fL {β:Type} (f:β->(β->α)->α):aa β->(aa β->α)->α
 | [],k=>k []
 | x::l,k=>f x fun x=>fL f l fun l=>k (x::l)
theorem Cn {β:Type} {f:β->(β->α)->α} (hf:∀x k,f x k=k x):∀(l:aa β) (k:aa β->α),fL f l k=k l
 | [],k=>rfl
 | x::l,k=>by rw [fL,hf,Cn hf l]
def fP (p:Nat × Nat) (k:Nat × Nat->α):α:=fN p.1 fun a=>fN p.2 fun b=>k (a,b)
theorem aoU (p:Nat × Nat) (k:Nat × Nat->α):fP p k=k p:=by unfold fP;rw [wS,wS]
def fW (p:Bool × Nat) (k:Bool × Nat->α):α:=fB p.1 fun a=>fN p.2 fun b=>k (a,b)
theorem aC5 (p:Bool × Nat) (k:Bool × Nat->α):fW p k=k p:=by unfold fW;rw [aoT,wS]
def fMd:Md->(Md->α)->α
 | .own none,k=>k (.own none)
 | .own (some p),k=>fP p fun p=>k (.own (some p))
 | .ro S,k=>fL fN S fun S=>k (.ro S)
 | .dead,k=>k .dead
theorem aAm (m:Md) (k:Md->α):fMd m k=k m:=by
 cases m with
 | own p=>cases p with
  | none=>rfl
  | some p=>rw [fMd,aoU]
 | ro S=>rw [fMd,Cn wS]
 | dead=>rfl
mutual
def fC:CT->(CT->α)->α
 | .d,k=>k .d
 | .sl m e,k=>fMd m fun m=>fCs e fun e=>k (.sl m e)
def fCs:aa CT->(aa CT->α)->α
 | [],k=>k []
 | c::cs,k=>fC c fun c=>fCs cs fun cs=>k (c::cs)
end
mutual
theorem aC6:∀(c:CT) (k:CT->α),fC c k=k c
 | .d,k=>rfl
 | .sl m e,k=>by rw [fC,aAm,Ji e]
theorem Ji:∀(c:aa CT) (k:aa CT->α),fCs c k=k c
 | [],k=>rfl
 | c::cs,k=>by rw [fCs,aC6 c,Ji cs]
end
def fT:TT->(TT->α)->α
 | .dead,k=>k .dead
 | .val ag cs,k=>fB ag fun ag=>fCs cs fun cs=>k (.val ag cs)
 | .alias ag cs r sk off S,k=>fB ag fun ag=>fCs cs fun cs=>fN r fun r=>fL fP sk fun sk=>fN off fun off=>fL fN S fun S=>k (.alias ag cs r sk off S)
 | .box cs,k=>fCs cs fun cs=>k (.box cs)
 | .ptr r sk off S,k=>fN r fun r=>fL fP sk fun sk=>fN off fun off=>fL fN S fun S=>k (.ptr r sk off S)
 | .tup ws cs,k=>fL fW ws fun ws=>fCs cs fun cs=>k (.tup ws cs)
theorem aw8 (T:TT) (k:TT->α):fT T k=k T:=by
 cases T with
 | dead=>rfl
 | val ag cs=>rw [fT,aoT,Ji]
 | alias ag cs r sk off S=>rw [fT,aoT,Ji,wS,Cn aoU,wS,Cn wS]
 | box cs=>rw [fT,Ji]
 | ptr r sk off S=>rw [fT,wS,Cn aoU,wS,Cn wS]
 | tup ws cs=>rw [fT,Cn aC5,Ji]
def fTs (l:aa TT) (k:aa TT->α):α:=fL fT l k
theorem ar5 (l:aa TT) (k:aa TT->α):fTs l k=k l:=Cn aw8 l k
def fU (p:Nat × TT) (k:Nat × TT->α):α:=fN p.1 fun a=>fT p.2 fun b=>k (a,b)
theorem aC7 (p:Nat × TT) (k:Nat × TT->α):fU p k=k p:=by unfold fU;rw [wS,aw8]
def fUp (l:aa (Nat × TT)) (k:aa (Nat × TT)->α):α:=fL fU l k
theorem aAo (l:aa (Nat × TT)) (k:aa (Nat × TT)->α):fUp l k=k l:=Cn aC7 l k
end
end Go.Fw
namespace Go.Fw
def nT (P:aS) (sigs:FuncId->ah aL) (N:Nat) (D0l:aa TT) (jC:Nat->aa Nat) (ni:aa Hint):Nat->aa bP->aa OpR->ah (aa OpR)
 | _,[],rs=>some rs.reverse
 | i,o::os,rs=>match Du P sigs N D0l rs (jC i) (ni.getD i ⟨false,[],[]⟩) o with
  | some x=>fUp x.up fun up=>nT P sigs N D0l jC ni (i+1) os ({ x with up:=up }::rs)
  | none=>none
def tY (rs:aa OpR) (i:Nat):aa Nat:=(rQ rs i).map (·.1)++(AP rs i).toList
theorem adj {P:aS} {sigs:FuncId->ah aL} {N:Nat} {D0l:aa TT} {jC:Nat->aa Nat} {ni:aa Hint}:∀{os:aa bP} {rs0 rs:aa OpR} {i:Nat},nT P sigs N D0l jC ni i os rs0=some rs->rs0.length=i ->
  rs.length=i+os.length/\(∃post,rs=rs0.reverse++post)/\∀k o,os[k]?=some o->∃x,rs[i+k]?=some x/\Du P sigs N D0l ((rs.take (i+k)).reverse) (jC (i+k)) (ni.getD (i+k) ⟨false,[],[]⟩) o=some x
 | [],rs0,rs,i,h,hl=>by
  simp only [nT,aN] at h
  subst h
  exact ⟨by simp [hl],⟨[],by simp⟩,fun k o hk=>by simp at hk⟩
 | o::os,rs0,rs,i,h,hl=>by
  simp only [nT] at h
  split at h
  case h_2=>cases h
  case h_1 x hx=>
  rw [aAo] at h
  have h:nT P sigs N D0l jC ni (i+1) os (x::rs0)=some rs:=h
  obtain ⟨k1,⟨post,k2⟩,k3⟩:=adj h (by simp [hl])
  refine ⟨by simp only [bF];omega,⟨x::post,by rw [k2];simp⟩,fun k o' hk => ?_⟩
  cases k with
  | zero=>
   simp at hk
   subst hk
   refine ⟨x,?_,?_⟩
   ·rw [k2];simp [<-hl]
   ·have:(rs.take (i+0)).reverse=rs0:=by
     rw [k2,pY,<-hl];simp
    rw [this];exact hx
  | succ k=>
   obtain ⟨x',g1,g2⟩:=k3 k o' (by simpa using hk)
   rw [show i+1+k=i+(k+1) from by omega] at g1 g2
   exact ⟨x',g1,g2⟩
structure aoV (P:Program) (N:Nat) (o:Oper) (x:OpR):Prop where
 ok:∀b,ek P N o (x.g b) (x.S b)
 kl:∀b,(x.S b).kl=(x.S true).kl
 sup:∀b,(x.S b).up=(x.S true).up
 up:∃ks:List Nat,x.up=(x.S true).up++ks.map fun t=>(t,.dead)
 d:x.d=o.dst
 gd:x.gd=o.guard
 kd:(x.S true).kl .dead = .dead
 vl:∀b s v,(x.S b).eff.rel P s v->v.length<=(x.S b).up.length/\0<v.length
theorem ami {P:aS} {N:Nat} {g:Nat->TT} {o:bP} {d c:Nat} {x y:iL} {X Y:DX} {b:Bool} (ho:o.op = .pick (.tmp c) x y) (hd:o.dst=some d) (hdN:d<N) (hx:nR g (if b then x else y)=some (if b then X else Y)) {C:DX}
  (hc:nR g (.tmp c)=some C):ek P N o g (Kv d c X Y b):=by
 intro ac κ0 κ w0 w tg sv s a v next Q hN hR hL hv bU;simp only [Kv,Stp.set,Eff.rel] at hv;split at hv;case h_2=>cases hv
 case h_1 cv hcv=>
 split at hv;case isFalse=>cases hv
 case isTrue hcb=>
 subst hcb;split at hv;case h_2=>cases hv
 case h_1 y' hy=>
 cases hv;obtain ⟨e1,e2⟩:=uW hR hL hx hy;have hC:C = .t c:=by
  simp only [nR] at hc;split at hc
  ·cases hc;rfl
  ·cases hc
 subst hC;obtain ⟨e3,_⟩:=uW hR hL hc (v:=.bool cv) (by
  simp only [DX.get]
  unfold kK at hcv
  split at hcv
  ·rename_i c' is hs;cases hcv;rw [hs]
  ·cases hcv)
 refine iU hd hN hdN (w':=w) (x:=y') ?_ (XQ hR hdN e2 (Grows.refl w)) bU;unfold execOp;rw [ho];simp only [e3];cases cv with
 | true=>simp only [if_true] at e1;simp only [e1];rfl
 | false=>simp only [iK,if_false] at e1;simp only [e1];rfl
theorem adk {P:aS} {sigs:FuncId->ah aL} {N:Nat} {D0l:aa TT} {rs:aa OpR} {Xu:aa Nat} {h:Hint} {o:bP} {x:OpR} (hx:Du P sigs N D0l rs Xu h o=some x):aoV P N o x:=by
 unfold Du at hx;simp only at hx;split at hx
 ·rename_i c xx yy d lI hd;split at hx;case h_2=>cases hx
  case h_1 X Y C1 C2 hX hY hC1 hC2=>
  split at hx;case isFalse=>cases hx
  case isTrue hdN=>
  cases hx;refine ⟨fun b => ?_,fun b=>rfl,fun b=>rfl,⟨_,rfl⟩,hd.symm,rfl,rfl,fun b s v hv => ?_⟩
  ·cases b with
   | true=>exact ami lI hd hdN hX hC1
   | false=>exact ami lI hd hdN hY hC2
  ·simp only [Kv,Stp.set,Eff.rel] at hv ⊢;repeat' split at hv
   all_goals first
    | (cases hv;simp)
    | cases hv
 ·split at hx;case h_2=>cases hx
  case h_1 S hS=>
  cases hx;obtain ⟨k1,k2,k3⟩:=ame hS;exact ⟨fun b=>k1,fun b=>rfl,fun b=>rfl,⟨_,rfl⟩,rfl,rfl,k2,fun b s v hv=>k3 s v hv⟩
def uZ (np:Nat->Bool) (N:Nat) (D0l:aa TT) (rs:aa OpR) (bef:Nat->Nat->Bool) (jC:Nat->aa Nat):Bool:=
 (List.range rs.length).all fun i=>match rs[i]? with
  | none=>false
  | some o=>
   ((List.range rs.length).all fun j=>(j == i) || bef i j || bef j i || ((tY rs j).all fun t=>(jC i).contains t && !(tY rs i).contains t)) &&
   ((List.range rs.length).all fun j=>(j == i) || bef i j || ((rQ rs j).all fun p=>(o.up.map (·.1)).contains p.1 || ((o.S true).kl p.2).beq p.2)) &&
   ((alv D0l).all fun p=>(o.up.map (·.1)).contains p.2 || ((o.S true).kl p.1).beq p.1) &&
   (match o.d with
    | some d=>decide (d<N) && !np d
    | none=>true) &&
   (match o.gd with
    | none=>true
    | some (j,_)=>bef j i&&decide (j<i)&&(match AP rs j with
      | some t=>((List.range rs.length).all fun k=>(k == j) || !(tY rs k).contains t)&&((rQ rs j).map (·.1)).contains t&&(aG (fun _=>TT.dead) (rQ rs j) t).beq (.val false [.d])
      | none=>false) &&
     (match o.d with
      | some d=>((alv D0l).all fun p=>(p.2 == d) || (p.1.kill [d] []).beq p.1)&&((List.range rs.length).all fun j=>(j == i) || bef i j || ((rQ rs j).all fun p=>(p.1 == d) || (p.2.kill [d] []).beq p.2))
      | none=>true)) &&
   ([true,false].all fun b=>((o.S b).up.drop 1).all fun p=>p.2.isDead || !(o.g b p.1).isDead) &&
   (match o.pk with
    | some c=>Nat.ble ((List.range rs.length).filter fun k=>(tY rs k).contains c).length 1
    | none=>true)
end Go.Fw
namespace Go.Fw
theorem aAp {r:bJ} {L:Nat->Bool} {j t:Nat} (hj:j<r.n) (hL:L j=true) (hw:r.wn j=true) (ht:t∈(r.up j).map (·.1)) (ho:∀k,k<r.n->r.Wd k t->k=j) :
  ∀k,j<k->k<=r.n->r.dL L k t=aG (fun _=>.dead) (r.up j) t:=by
 intro k;induction k with
 | zero=>intro h;omega
 | succ k ih=>
  intro h1 h2;simp only [bJ.dL];by_cases hkj:k=j
  ·subst hkj;rw [hL,if_pos rfl];unfold bJ.dS;rw [hw,if_pos rfl];exact bJ.upds_in ht
  ·have hn:¬r.Wd k t:=fun wz=>hkj (ho k (by omega) wz)
   have:=ih (by omega) (by omega);split
   ·rw [bJ.dS_out hn];exact this
   ·exact this
theorem ar6 {r:bJ} {L:Nat->Bool} {j t:Nat} (ho:∀k,k<r.n->r.Wd k t->k=j):∀k,j<k->k<=r.n->r.sL L k t=r.sL L (j+1) t:=by
 intro k;induction k with
 | zero=>intro h;omega
 | succ k ih=>
  intro h1 h2;by_cases hkj:k=j
  ·rw [hkj]
  ·have hn:¬r.Wd k t:=fun wz=>hkj (ho k (by omega) wz)
   have:=ih (by omega) (by omega);simp only [bJ.sL];split
   ·rw [bJ.sS_out hn];exact this
   ·exact this
theorem aoW {r:bJ} {k i:Nat} (h:k<=i):r.sL (bJ.lt i) k=r.sL allT k:=bJ.sL_congr k fun j hj=>by simp [bJ.lt,allT];omega
theorem amj {D0l:aa TT} {t:Nat} {T:TT} (hT:D0l[t]?=some T) (Ha:T≠.dead):(T,t)∈alv D0l:=by
 unfold alv;rw [jK,List.mem_zipIdx_iff_getElem?];refine ⟨hT,?_⟩;cases T<;>first|exact absurd rfl Ha|rfl
section
variable {P:aS} {sigs:FuncId->ah aL} {N:Nat} {D0l:aa TT} {jC:Nat->aa Nat} {ni:aa Hint} {l:aa bP} {rs:aa OpR} {bef:Nat->Nat->Bool} {s0:Nat->AV} {np:Nat->Bool} {px:Nat->aj} {wl:aa Bool} {vl:aa (aa AV)}
theorem oF (aT:uZ np N D0l rs bef jC=true) {i:Nat} {o:OpR} (ho:rs[i]?=some o) :
  (∀j,j<rs.length->j≠i->bef i j=false->bef j i=false->∀t,t∈tY rs j->t∈jC i/\t∉tY rs i) /\
  (∀j,j<rs.length->j≠i->bef i j=false->∀t T,(t,T)∈rQ rs j->t∉o.up.map (·.1)->(o.S true).kl T=T) /\
  (∀t T,D0l[t]?=some T->T≠.dead->t∉o.up.map (·.1)->(o.S true).kl T=T)/\(∀d,o.d=some d->d<N/\np d=false) /\
  (∀j b,o.gd=some (j,b)->bef j i=true/\j<i/\(∃t,AP rs j=some t/\(∀k,k<rs.length->t∈tY rs k->k=j)/\t∈(rQ rs j).map (·.1)/\aG (fun _=>TT.dead) (rQ rs j) t = .val false [.d]) /\
   ∀d,o.d=some d->(∀t T,D0l[t]?=some T->t≠d->T.kill [d] []=T)/\∀k,k<rs.length->k≠i->bef i k=false->∀t T,(t,T)∈rQ rs k->t≠d->T.kill [d] []=T) /\
  (∀b p,p∈(o.S b).up.drop 1->p.2 = .dead\/o.g b p.1≠.dead) /\
  (∀c,o.pk=some c->∀k k',k<rs.length->k'<rs.length->c∈tY rs k->c∈tY rs k'->k=k'):=by
 have hi:=(aZ ho).1;unfold uZ at aT;rw [bW] at aT;have h:=aT i (iY.2 hi);rw [ho] at h;simp only [aU] at h;obtain ⟨⟨⟨⟨⟨⟨h1,h2⟩,h3⟩,h4⟩,h5⟩,h6⟩,h7⟩:=h;refine ⟨fun j hj ik VD wB t ht => ?_,fun j hj ik VD t T hT ht => ?_,fun t T hT Ha ht => ?_,fun d hd => ?_,fun j b hg => ?_,fun b p hp => ?_,fun c hc k k' hk nY He aFH => ?_⟩
 ·have:=(bW.1 h1) j (iY.2 hj);simp only [VD,wB,Bool.or_false,iT,beq_iff_eq] at this;have:=(bW.1 (this.resolve_left ik)) t ht;simpa using this
 ·have:=(bW.1 h2) j (iY.2 hj);simp only [VD,Bool.or_false,iT,beq_iff_eq] at this;have:=(bW.1 (this.resolve_left ik)) (t,T) hT;simp only [iT] at this;rcases this with h|h
  ·exact absurd (by simpa using h) ht
  ·exact TT.beq_eq h
 ·have hm:(T,t)∈alv D0l:=amj hT Ha;have:=(bW.1 h3) (T,t) hm;simp only [iT] at this;rcases this with h|h
  ·exact absurd (by simpa using h) ht
  ·exact TT.beq_eq h
 ·rw [hd] at h4;simpa using h4
 ·rw [hg] at h5;simp only [aU,decide_eq_true_eq] at h5;obtain ⟨⟨⟨g1,g2⟩,g3⟩,g4⟩:=h5;refine ⟨g1,g2,?_,fun d hd => ?_⟩
  ·split at g3
   ·rename_i t ht;simp only [aU] at g3;obtain ⟨⟨g5,g6⟩,g7⟩:=g3;refine ⟨t,ht,fun k hk hkt => ?_,by simpa using g6,TT.beq_eq g7⟩;have:=(bW.1 g5) k (iY.2 hk);simp only [iT,beq_iff_eq,sK] at this;rcases this with h|h
    ·exact h
    ·simp at h;exact absurd hkt h
   ·cases g3
  ·rw [hd] at g4;simp only [aU] at g4;refine ⟨fun t T hT ht => ?_,fun k hk G6 hb t T hT ht => ?_⟩
   ·by_cases Ha:T = .dead
    ·subst Ha;rfl
    have hm:(T,t)∈alv D0l:=amj hT Ha;have:=(bW.1 g4.1) (T,t) hm;simp only [iT,beq_iff_eq] at this;exact TT.beq_eq (this.resolve_left ht)
   ·have:=(bW.1 g4.2) k (iY.2 hk);simp only [hb,Bool.or_false,iT,beq_iff_eq] at this;have:=(bW.1 (this.resolve_left G6)) (t,T) hT;simp only [iT,beq_iff_eq] at this;exact TT.beq_eq (this.resolve_left ht)
 ·have:=(bW.1 h6) b (by cases b<;>simp);have:=(bW.1 this) p hp;simp only [iT,sK] at this;rcases this with h|h
  ·exact .inl (FM h)
  ·right;intro he;rw [he] at h;simp [TT.isDead] at h
 ·rw [hc] at h7;have h8:=Nat.le_of_ble_eq_true h7;have m1:k∈(List.range rs.length).filter fun k=>(tY rs k).contains c:=jK.2 ⟨iY.2 hk,by simpa using He⟩
  have m2:k'∈(List.range rs.length).filter fun k=>(tY rs k).contains c:=jK.2 ⟨iY.2 nY,by simpa using aFH⟩
  generalize (List.range rs.length).filter (fun k=>(tY rs k).contains c)=l at h8 m1 m2;match l,h8,m1,m2 with
  | [x],_,m1,m2=>
   rw [cK] at m1 m2;rw [m1,m2]
end
end Go.Fw
