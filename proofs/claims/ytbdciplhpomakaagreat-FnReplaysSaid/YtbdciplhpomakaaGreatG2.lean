/- A way of showing what a function computes: the blocks of the heap are owned by the places that mh them; this is a part of it. No conditions. -/
import Derived.Test.YtbdciplhpomakaaGreatG1
import Derived.Orders
import Derived.OrdersHeld
import Derived.Laws.StructEq
import Derived.Laws.BytesString
set_option linter.unusedSectionVars false
namespace Go.Fw
def qM (g:Nat->TT) (t:Nat):Nat->TT:=fun u=>if u=t then .dead else (g u).kill [t] [t]
def zh (t r base:Nat) (κ:aP):aP:=fun b=>
 match κ b with
 | some (r',m::q)=>if r'=t then some (r,(base+m)::q) else some (r',m::q)
 | x=>x
theorem ab6 {t r base:Nat} {κ:aP} {b:Nat} (h:∀q,κ b≠some (t,q)):zh t r base κ b=κ b:=by
 unfold zh;split
 ·rename_i r' m q hk;rw [if_neg (by rintro rfl;exact h _ hk),hk]
 ·rfl
theorem ads {t r base:Nat} {κ:aP} {b:Nat} (h:κ b=none):zh t r base κ b=none:=by
 rw [ab6 (by rw [h];simp),h]
section
variable {ac:Nat->Nat->aj} {κ0 κ:aP} {w0 w:aB} {N:Nat} {tg:Nat->TT} {sv:Nat->AV} {tm:Nat->aj}
theorem avZ (h:R ac κ0 w0 κ w N tg sv tm) {t r base:Nat} (lT:t<N):R ac κ0 w0 (zh t r base κ) w N (qM tg t) sv tm:=by
 refine ul (mods:=[t]) (M:=[t]) h ?_ (fun S hS b hb => ?_) (fun b r' q hr hb => ?_) (fun r' hr => ?_) (fun _ _=>rfl) (fun _ _=>rfl) (fun u hu => ?_) (fun u hu => ?_) (fun b hb => ?_) ?_
 ·have:=h.nle;simp only [cB];omega
 ·have aZ:∀q,κ b≠some (t,q):=fun q hk=>hS t (by simp) (hb.2 _ _ hk).1
  exact ⟨⟨hb.1,fun r' q hk=>by rw [ab6 aZ] at hk;exact hb.2 _ _ hk⟩,Same.refl w b⟩
 ·simp only [cB] at hr;exact ⟨ab6 (by rw [hb];intro q hk;cases hk;exact hr rfl),Same.refl w b⟩
 ·simp only [cB] at hr;left;simp [qM,hr]
 ·simp only [cB] at hu;subst hu;simp [qM,TR]
 ·have:u≠t:=by omega
  simp only [qM,if_neg this,h.out u hu];rfl
 ·exact ads (h.col b hb)
 ·refine ⟨h.fr.size,fun b hb h0 => ?_,h.fr.os,h.fr.out,h.fr.tape⟩;have:=h.fr.kept b hb h0;exact ⟨ads this.1,this.2⟩
end
theorem asl {g tg:Nat->TT} {s sv:Nat->AV} (h:Le g s tg sv) (t:Nat):Le (qM g t) s (qM tg t) sv:=by
 intro u;by_cases hu:u=t
 ·left;simp [qM,hu]
 ·rcases h u with h1|h1
  ·left;simp only [qM,if_neg hu,h1];rfl
  ·right;simp only [qM,if_neg hu,h1.1];exact ⟨trivial,h1.2⟩
def MW (j j2 base:Nat) (q:aa Nat):ah Pl:=
 match q with
 | m::q'=>if base<=m then some (j2,(m-base)::q') else some (j,m::q')
 | []=>some (j,[])
section
variable {P:aS} {ac:Nat->Nat->aj} {κ0 κ:aP} {w0 w:aB} {N:Nat} {tg g:Nat->TT} {sv s:Nat->AV} {a:Act}
theorem azo (h:R ac κ0 w0 κ w N tg sv (gm a)) {t r j j2 base:Nat} {ag:Bool} {cs cs':aa CT} (ht:tg t = .val ag cs') (aV:BU cs' cs=true) {as:aa A} {is:aa Nat} (hs:sv t = .v as is) {Sall:aa Nat} :
  pV (fD (zh t r base κ) (some r) (MW j j2 base) Sall) w j2 (gm a t) as (.tk ag cs):=by
 have h1:=h.tr t;rw [ht] at h1;simp only [TR] at h1;obtain ⟨as',vs,g1,g2,g3,_,g5⟩:=h1;rw [hs] at g1;cases g1;refine ⟨vs,g2,by rw [g3,Jq aV],?_⟩;have:=fZ (f:=id) (P:=fun _=>False) (κ:=κ) (w:=w) (κ':=fD (zh t r base κ) (some r) (MW j j2 base) Sall) (w':=w) (p':=(j2,[])) (j':=0) (get':=fun k=>vs.getD k undef) (fun S hS=>hS.elim) (uq (ut aV).2.2) (fun i hi b q hb=>⟨?_,Same.refl w b⟩) (fun i hi=>rfl) (Sa aV g5)
 ·rwa [iR] at this
 ·have cO:κ b=some (t,i::q):=by rw [hb];simp
  unfold fD zh;rw [cO];simp only [if_true,MW];rw [if_pos (by omega),show base+i-base=i from by omega];simp
theorem azp (h:R ac κ0 w0 κ w N tg sv (gm a)) {r j j2:Nat} {cr cs:aa CT} (hr:tg r = .box cr) (aV:Yr cr cs=true) {as:aa A} {is:aa Nat} (hs:sv r = .v as is) {Sall:aa Nat} (hrS:r∉Sall) (hS:∀m,m∈CT.roSs cr->m∈Sall) {x:aj} (hx:x=gm a r) :
  pV (fD κ (some r) (MW j j2 cr.length) Sall) w j x as (.mp cs):=by
 have h1:=h.tr r;rw [hr] at h1;simp only [TR] at h1;obtain ⟨as',b,g1,g2,g3,g4,g5,g6,g7⟩:=h1;rw [hs] at g1;cases g1;subst hx;simp only [Yr,aU] at aV;have rJ:=CT.beqs_eq aV.1.1.1;have hl:cr.length=cs.length:=by
  have:=congrArg List.length rJ;simpa [iX,gy] using this
 refine ⟨b,g2,g3,?_,by rw [<-hl];exact g5,?_⟩
 ·unfold fD;rw [g4];simp [MW]
 ·have:=fZ (f:=fun _=>[]) (P:=fun S=>∀m,m∈S->m∈Sall) (κ:=κ) (w:=w) (κ':=fD κ (some r) (MW j j2 cr.length) Sall) (w':=w) (p':=(j,[])) (j':=0) (get':=cellD w b) (fun S hS b' hb=>⟨⟨hb.1,fun r' q hq => ?_⟩,Same.refl w b'⟩) (pW hS) (fun i hi b' q hb=>⟨?_,Same.refl w b'⟩) (fun i hi=>rfl) g7
  ·have h2:=f_.2 this;rw [rJ] at h2;exact f_.1 h2
  ·exfalso;unfold fD at hq;cases hk:κ b' with
   | none=>simp [hk] at hq
   | some p=>
    obtain ⟨r2,q2⟩:=p;obtain ⟨h3,h4⟩:=hb.2 _ _ hk;have h5:=hS _ h3;have h6:r2≠r:=by rintro rfl;exact hrS h5
    simp [hk,h6,h5,h4] at hq
  ·have cO:κ b'=some (r,i::q):=by rw [hb];simp
   unfold fD;rw [cO];simp only [if_true,MW];rw [if_neg (by omega)];simp
end
def asn:Nat->aa PM->aa iN->ah (Nat × Nat)
 | i,.tk _ _::_,.tmp t::_=>some (i,t)
 | i,_::ps,_::xs=>asn (i+1) ps xs
 | _,_,_=>none
def wY (P:aS) (g:Nat->TT) (ag':Bool) (cs':aa CT) (t j2:Nat):Nat->aa PM->aa iN->aa TypeId->ah AX
 | _,[],[],[]=>some ⟨[],[],[],none⟩
 | i,pm::ps,x::xs,ty::tys=>match wY P g ag' cs' t j2 (i+1) ps xs tys with
  | some Y=>match pm with
   | .rd ag cs=>match rdX P g ty i ag cs x with
    | some (X,S)=>some ⟨X.get::Y.gets,X.rd++Y.rd,S++Y.S,Y.sp⟩
    | none=>none
   | .tk ag cs=>match x with
    | .tmp t'=>if t'=t/\i=j2/\ag=ag'/\BU cs' cs=true then some ⟨iK t::Y.gets,t::Y.rd,Y.S,Y.sp⟩ else none
    | _=>none
   | .mp cs=>match Y.sp,tH g (.mp cs) x with
    | none,some (f,rd)=>some ⟨f::Y.gets,rd++Y.rd,Y.S,some (i,.mp cs,x)⟩
    | _,_=>none
   | .mt _ _=>none
  | none=>none
 | _,_,_,_=>none
section
variable {P:aS} {ac:Nat->Nat->aj} {κ0 κ:aP} {w0 w:aB} {N:Nat} {tg g:Nat->TT} {sv s:Nat->AV} {a:Act}
theorem adt (h:R ac κ0 w0 κ w N tg sv (gm a)) (hL:Le g s tg sv) {r0:ah Nat} {gG:aa Nat->ah Pl} {Sall:aa Nat} (oI:∀r,r0=some r->r∉Sall) {ag':Bool} {cs':aa CT} {t j2:Nat}
  (NM:∀cs as,BU cs' cs=true->iK t s=some as->pV (fD κ r0 gG Sall) w j2 (gm a t) as (.tk ag' cs)) :
  ∀{i:Nat} {ps:aa PM} {xs:aa iN} {tys:aa TypeId} {Y:AX} {ass:aa (aa A)},wY P g ag' cs' t j2 i ps xs tys=some Y->oK s Y.gets=some ass->(∀r,r∈Y.S->r∈Sall) ->
   (∀j cs x f rd as,Y.sp=some (j,.mp cs,x)->tH g (.mp cs) x=some (f,rd)->f s=some as->pV (fD κ r0 gG Sall) w j (a.eval x) as (.mp cs)) ->
   xs.length=ps.length/\ass.length=ps.length/\(∀k pm x as,ps[k]?=some pm->(xs.map a.eval)[k]?=some x->ass[k]?=some as->pV (fD κ r0 gG Sall) w (i+k) x as pm) /\
   (∀j pm x,Y.sp=some (j,pm,x)->i<=j/\ps[j-i]?=some pm/\pm.mut=true/\xs[j-i]?=some x)
 | i,[],[],[],Y,ass,hx,hg,_,_=>by
  simp only [wY,aO] at hx
  subst hx
  simp only [oK,aO] at hg
  subst hg
  simp
 | i,pm::ps,x::xs,ty::tys,Y,ass,hx,hg,hS,sP=>by
  simp only [wY] at hx
  split at hx
  case h_2=>cases hx
  case h_1 Y' hY=>
  have fin:∀{f:(Nat->AV)->ah (aa A)} {rd S:aa Nat} {sp:ah (Nat × PM × iN)} {ass':aa (aa A)} {as:aa A},
    (Y'.sp=sp\/Y'.sp=none/\sp=some (i,pm,x)/\pm.mut=true)->oK s Y'.gets=some ass'->ass=as::ass'->(∀r,r∈Y'.S->r∈Sall) ->
    (∀j cs x f rd as,Y'.sp=some (j,.mp cs,x)->tH g (.mp cs) x=some (f,rd)->f s=some as->pV (fD κ r0 gG Sall) w j (a.eval x) as (.mp cs))->pV (fD κ r0 gG Sall) w i (a.eval x) as pm->Y.sp=sp ->
    (x::xs).length=(pm::ps).length/\ass.length=(pm::ps).length/\(∀k pm' x' as,(pm::ps)[k]?=some pm'->((x::xs).map a.eval)[k]?=some x'->ass[k]?=some as->pV (fD κ r0 gG Sall) w (i+k) x' as pm') /\
   (∀j pm' x',Y.sp=some (j,pm',x')->i<=j/\(pm::ps)[j-i]?=some pm'/\pm'.mut=true/\(x::xs)[j-i]?=some x'):=by
   intro f rd S sp ass' as aFZ qA hae hS' aF0 aF1 aF2;subst hae;obtain ⟨k1,k2,k3,k4⟩:=adt h hL oI NM hY qA hS' aF0;refine ⟨by simp [k1],by simp [k2],fun k pm' x' as' h1 h2 h3 => ?_,fun j pm' x' hj => ?_⟩
   ·cases k with
    | zero=>
     simp at h1 h2 h3;subst h1 h2 h3;exact aF1
    | succ k=>
     rw [show i+(k+1)=i+1+k from by omega];exact k3 k pm' x' as' (by simpa using h1) (by simpa using h2) (by simpa using h3)
   ·rw [aF2] at hj;rcases aFZ with he|⟨hn,he,hm⟩
    ·obtain ⟨g1,g2,g3,g4⟩:=k4 j pm' x' (he.trans hj);have e1:j-i=(j-(i+1))+1:=by omega
     rw [e1];exact ⟨by omega,by simpa using g2,g3,by simpa using g4⟩
    ·rw [he] at hj;simp only [aO,di] at hj;obtain ⟨rfl,rfl,rfl⟩:=hj;exact ⟨eY _,by simp,hm,by simp⟩
  split at hx
  ·rename_i ag cs
   split at hx
   case h_2=>cases hx
   case h_1 X S hX=>
   cases hx
   simp only [oK] at hg
   split at hg
   case h_2=>cases hg
   case h_1 as ass' jH qA=>
   cases hg
   exact fin (f:=X.get) (rd:=[]) (S:=[]) (.inl rfl) qA rfl (fun r hr=>hS r (by simp [hr])) (fun j cs x f rd as hj=>sP j cs x f rd as hj) (asi h hL hX jH (fun r hr=>hS r (by simp [hr])) oI) rfl
  ·rename_i ag cs
   split at hx
   case h_2=>cases hx
   case h_1 t'=>
   split at hx
   case isFalse=>cases hx
   case isTrue hc=>
   obtain ⟨rfl,rfl,rfl,aV⟩:=hc
   cases hx
   simp only [oK] at hg
   split at hg
   case h_2=>cases hg
   case h_1 as ass' jH qA=>
   cases hg
   exact fin (f:=iK t') (rd:=[]) (S:=[]) (.inl rfl) qA rfl hS (fun j cs x f rd as hj=>sP j cs x f rd as hj) (NM cs as aV jH) rfl
  ·rename_i cs
   split at hx
   case h_2=>cases hx
   case h_1 f rd XL hsg=>
   cases hx
   simp only [oK] at hg
   split at hg
   case h_2=>cases hg
   case h_1 as ass' jH qA=>
   cases hg
   exact fin (f:=f) (rd:=[]) (S:=[]) (.inr ⟨XL,rfl,rfl⟩) qA rfl hS (fun j cs x f rd as hj=>by rw [XL] at hj;cases hj) (sP i cs x f rd as rfl hsg jH) rfl
  ·cases hx
 | _,[],_::_,_,_,_,hx,_,_,_=>by simp [wY] at hx
 | _,[],[],_::_,_,_,hx,_,_,_=>by simp [wY] at hx
 | _,_::_,[],_,_,_,hx,_,_,_=>by simp [wY] at hx
 | _,_::_,_::_,[],_,_,hx,_,_,_=>by simp [wY] at hx
end
def apd (sg:aM) (j:Nat):Bool:=
 match sg.ps[j]? with
 | some pm=>pm.mut
 | none=>false
theorem av0 {sg:aM} {j:Nat} (h:apd sg j=true):∃pm,sg.ps[j]?=some pm/\pm.mut=true:=by
 unfold apd at h;split at h
 ·rename_i pm kJ;exact ⟨pm,kJ,h⟩
 ·cases h
def Wt (P:aS) (sigs:FuncId->ah aM) (N:Nat) (g:Nat->TT) (o:bQ):ah Stp:=
 match o.dst,o.op with
 | some d,.call c=>match c.callee with
  | .value (.func K)=>match P.funcs[K]?,sigs K with
   | some fn,some sg=>match asn 0 sg.ps c.args.toList with
    | some (j2,t)=>match g t with
     | .val ag' cs'=>match wY P (qM g t) ag' cs' t j2 0 sg.ps c.args.toList fn.params.toList with
      | some Y=>match spK N (qM g t) Y.sp with
       | some (.mp r cr cs j)=>
        if d < N ∧ (fn.name == "runtime.NumGoroutine") = false ∧ fn.body.isNone = false ∧ (r ∉ Y.S ++ CT.roSs cr ∧ r ≠ d) ∧ agu sg (Y.S ++ CT.roSs cr) = true ∧ sg.ps.length < FB ∧ t < N ∧ t ≠ d ∧ t ≠ r ∧ apd sg j2 = true then
         some ⟨[(d,eH (Y.S++CT.roSs cr) sg.res),(r,.box (CT.mapSs (fun _=>Y.S++CT.roSs cr) (CT.unpins cs))),(t,.dead)],fun T=>(T.kill [t] [t]).killS r [d,r] [r],Y.rd++[r,t],.call K sg (fun s=>oK s Y.gets) fun res outs s=>(SK.mp r cr cs j).post sg.res res outs s⟩
        else none
       | _=>none
      | none=>none
     | _=>none
    | none=>none
   | _,_=>none
  | _=>none
 | _,_=>none
theorem ak3 {P:aS} {sigs:FuncId->ah aM} {N:Nat} {g:Nat->TT} {o:bQ} {S:Stp} (h:Wt P sigs N g o=some S):d9 P N o g S:=by
 unfold Wt at h;split at h;case h_2=>cases h
 case h_1 d c hd ho=>
 obtain ⟨callee,args,ats⟩:=c;simp only at h;split at h;case h_2=>cases h
 case h_1 _ K=>
 split at h;case h_2=>cases h
 case h_1 fn sg hf hsg=>
 split at h;case h_2=>cases h
 case h_1 j2 t0 aIx=>
 split at h;case h_2=>cases h
 case h_1 ag' cs' hT0=>
 split at h;case h_2=>cases h
 case h_1 Y hY=>
 split at h;case h_2=>cases h
 case h_1 r cr cs j hk=>
 split at h;case isFalse=>cases h
 case isTrue hc=>
 obtain ⟨hdN,arJ,arK,oI,lc,jo,lT,aF3,aF4,aD0⟩:=hc;cases h;intro ac κ0 κ w0 w tg sv s a v next Q hN hR hL hv bT;simp only [Eff.rel] at hv;obtain ⟨ass,res,outs,FN,Dg,jw⟩:=hv;have pK:=adq (a:=a) (w:=w) ho hf arJ arK;have sP:=adr hk;generalize BS:Y.sp=sp at sP;cases sP with
 | @mp _ t _ _ _ hr aV sN ht=>
  have BF:=avZ (t:=t0) (r:=r) (base:=cr.length) hR lT;have hL2:=asl hL t0;obtain ⟨d1,d2⟩:=hL.at hT0 (by simp);obtain ⟨e1,e2⟩:=hL2.at hr (by simp);have FP:∀u,some r=some u->u∉Y.S++CT.roSs cr:=fun u hu=>by cases hu;exact oI.1
  have MR:=aV;simp only [Yr,aU] at MR;have rJ:=CT.beqs_eq MR.1.1.1;have axc:CT.srcss (CT.unpins cs)=[]:=List.isEmpty_iff.1 MR.1.2;simp only [SK.post] at jw;split at jw;case h_2=>cases jw
  case h_1 oo hoo=>
  cases jw;have h1:=BF.tr r;rw [e1] at h1;simp only [TR] at h1;obtain ⟨ra,b,g1,g2,g3,g4,g5,g6,g7⟩:=h1;have Cm:gm a t=gm a r:=by
   rcases ht with rfl|⟨S0,hT⟩
   ·rfl
   ·obtain ⟨t1,t2⟩:=hL2.at hT (by simp);have h1:=BF.tr t;rw [t1] at h1;simp only [TR] at h1;obtain ⟨is,B,O,u1,u2,_,_,u5⟩:=h1;rw [e1] at u2;simp only [iF,rb,g2,dA] at u2;cases is with
    | nil=>
     simp only [wk,aO,di] at u2;rw [u5,g2,<-u2.1,<-u2.2]
    | cons=>simp [wk] at u2
  obtain ⟨k1,k2,k3,k4⟩:=adt (r0:=some r) (gG:=MW j j2 cr.length) (Sall:=Y.S++CT.roSs cr) BF hL2 FP (fun cs2 as aF5 jH=>by
   obtain ⟨is,hs⟩:=cK jH
   exact azo hR d1 aF5 (by rw [d2,hs])) hY FN (fun r hr=>jr _ hr) (fun j' cs2 x f rd as hj kF yR=>by
   rw [BS] at hj
   simp only [aO,di,PM.mp.injEq] at hj
   obtain ⟨rfl,rfl,rfl⟩:=hj
   have gP:∃is,s r = .v as is:=by
    rcases ht with rfl|⟨S0,hT⟩
    ·simp only [tH,hr,aO,di] at kF
     obtain ⟨rfl,_⟩:=kF
     exact cK yR
    ·simp only [tH,hT,aO,di] at kF
     obtain ⟨rfl,_⟩:=kF
     exact cK yR
   obtain ⟨is,hs⟩:=gP
   exact azp BF e1 aV (by rw [e2,hs]) (FP r rfl) (fun m hm=>jJ _ hm) Cm)
  obtain ⟨_,yT,hmj,Kk⟩:=k4 _ _ _ BS;refine zg (d:=d) (gB:=fun q=>some q) pK Dg BF.col k1 k2 jo (fun q p _ hp => ?_) (fun k pm x as h1 h2 h3=>by simpa using k3 k pm x as h1 h2 h3) fun vv κ' w' qy lG MQ => ?_
  ·have aCH:∃pm,sg.ps[j]?=some pm/\pm.mut=true:=⟨_,by simpa using yT,hmj⟩
   unfold MW at hp;split at hp
   ·split at hp
    ·cases hp;exact av0 aD0
    ·cases hp;exact aCH
   ·cases hp;exact aCH
  ·have fE:r≠d:=oI.2;have akD:j<sg.ps.length:=by have:=(bf yT).1;omega
   have pg:=MQ j (.mp cs) (gm a t) oo (by simpa using yT) (by
    rw [kM];simp only [rR] at Kk;rw [Kk];rfl) hoo
   obtain ⟨b',o1,o2,o3,o4,o5⟩:=pg;have hko:gz (zh t0 r cr.length κ) (fD (zh t0 r cr.length κ) (some r) (MW j j2 cr.length) (Y.S++CT.roSs cr)) κ' sg.ps.length d w.heap.size (some r) (fun q=>some q) b'=some (r,[]):=by
    unfold gz;rw [o3];simp only;rw [if_neg (by omega),if_neg (by omega)]
   have fe:TR ac (gz (zh t0 r cr.length κ) (fD (zh t0 r cr.length κ) (some r) (MW j j2 cr.length) (Y.S++CT.roSs cr)) κ' sg.ps.length d w.heap.size (some r) (fun q=>some q)) w' (aF (fun u=>(qM tg t0 u).kill [d,r] [r]) [(d,eH (Y.S++CT.roSs cr) sg.res),(r,.box (CT.mapSs (fun _=>Y.S++CT.roSs cr) (CT.unpins cs)))])
     (aF sv [(d,jv res sg.res),(r,.v oo [])]) (upd (gm a) d vv) r (.box (CT.mapSs (fun _=>Y.S++CT.roSs cr) (CT.unpins cs))):=by
    simp only [TR];refine ⟨oo,b',by simp [aF,fE],by rw [upd_ne _ _ _ fE,<-Cm,o1],o2,hko,by rw [gy,iX];exact o4,gu (H7 MR.2),?_⟩;refine fZ (f:=fun _=>Y.S++CT.roSs cr) (P:=fun S=>∀r,r∈S->∃pm,sg.ps[r]?=some pm/\pm.mut=false) (κ:=κ') (w:=w') (κ':=gz (zh t0 r cr.length κ) (fD (zh t0 r cr.length κ) (some r) (MW j j2 cr.length) (Y.S++CT.roSs cr)) κ' sg.ps.length d w.heap.size (some r) (fun q=>some q)) (w':=w') (p':=(r,[])) (j':=0) (get':=cellD w' b') (fun S hS b hb=>⟨qy.res_ro hS hb,Same.refl w' b⟩) (Cw.2 (by rw [axc];simp)) (fun i hi b2 q hb=>⟨?_,Same.refl w' b2⟩) (fun i hi=>rfl) (f_.2 o5)
    ·unfold gz;rw [hb];simp only;rw [if_neg (by omega),if_neg (by omega)]
   have jq:=Jr BF qy hdN (fun u hu=>by cases hu;exact ⟨sN,fE⟩) (v:=vv) (tg':=aF (fun u=>(qM tg t0 u).kill [d,r] [r]) [(d,eH (Y.S++CT.roSs cr) sg.res),(r,.box (CT.mapSs (fun _=>Y.S++CT.roSs cr) (CT.unpins cs)))]) (sv':=aF sv [(d,jv res sg.res),(r,.v oo [])])
    (fun u hu aZ=>by
     have BD:u≠r:=fun he=>aZ (by rw [he])
     simp only [aF,if_neg hu,if_neg BD];rfl) (fun u hu aZ=>by
     have BD:u≠r:=fun he=>aZ (by rw [he])
     simp only [aF,if_neg hu,if_neg BD]) (by
     have:=qy.tr (ac:=ac) lc lG (aF (fun u=>(qM tg t0 u).kill [d,r] [r]) [(d,eH (Y.S++CT.roSs cr) sg.res),(r,.box (CT.mapSs (fun _=>Y.S++CT.roSs cr) (CT.unpins cs)))]) (aF sv [(d,jv res sg.res),(r,.v oo [])]) (upd (gm a) d vv) (by simp [aF]) (by simp [upd])
     simpa [aF] using this) (fun u hu=>by
     cases hu
     have:aF (fun u=>(qM tg t0 u).kill [d,r] [r]) [(d,eH (Y.S++CT.roSs cr) sg.res),(r,.box (CT.mapSs (fun _=>Y.S++CT.roSs cr) (CT.unpins cs)))] r = .box (CT.mapSs (fun _=>Y.S++CT.roSs cr) (CT.unpins cs)):=by simp [aF,fE]
     rw [this];exact fe)
   have hR3:=agt (tg2:=aF (fun u=>(qM tg t0 u).killS r [d,r] [r]) [(d,eH (Y.S++CT.roSs cr) sg.res),(r,.box (CT.mapSs (fun _=>Y.S++CT.roSs cr) (CT.unpins cs)))]) BF jq (r:=r) (mods:=[d,r]) (M:=[r]) (X:=[d,r]) (by simp) (fun u hu=>by
    simp only [a_,tq,or_false,not_or] at hu
    simp [aF,upd,hu.1,hu.2]) (fun u hu=>by
    simp only [a_,tq,or_false] at hu
    rcases hu with rfl|rfl
    ·simp [aF]
    ·simp [aF,fE]) (fun hb=>⟨⟨_,by simp [aF,fE];rfl⟩,by simp [upd,fE]⟩)
   refine bT vv w' _ _ _ (by rw [hd,qf (a:=a) (by rw [hN];exact hdN)];exact hR3) (fun u => ?_) (fun u=>by simp [aF]);simp only [aF];by_cases h1:u=d
   ·simp [h1]
   ·by_cases h2:u=r
    ·simp [h2,fE]
    ·by_cases h3:u=t0
     ·simp [h1,h2,h3,aF3,aF4,qM,TT.killS,TT.kill]
     ·simp [h1,h2,h3,qM]
end Go.Fw
namespace Go.Fw
structure bN where
 n:Nat
 up:Nat->List (Nat × TT)
 dst:Nat->Option Nat
 bef:Nat->Nat->Bool
 D0:Nat->TT
 s0:Nat->AV
 wn:Nat->Bool
 vv:Nat->List AV
 np:Nat->Bool
 px:Nat->Value
namespace bN
variable (r:bN)
def Wd (k t:Nat):Prop:=t∈(r.up k).map (·.1)\/r.dst k=some t
def sS (k:Nat) (f:Nat->AV):Nat->AV:=if r.wn k then aF f (((r.up k).map (·.1)).zip (r.vv k)) else f
def dS (k:Nat) (f:Nat->TT):Nat->TT:=if r.wn k then aF f (r.up k) else fun t=>if r.dst k=some t then .dead else f t
def sL (L:Nat->Bool):Nat->Nat->AV
 | 0=>r.s0
 | k+1=>if L k then r.sS k (sL L k) else sL L k
def dL (L:Nat->Bool):Nat->Nat->TT
 | 0=>r.D0
 | k+1=>if L k then r.dS k (dL L k) else dL L k
theorem upds_out {α:Type} {f:Nat->α} {l:aa (Nat × α)} {t:Nat} (h:t∉l.map (·.1)):aF f l t=f t:=by
 induction l with
 | nil=>rfl
 | cons p l ih=>
  simp only [bz,a_,not_or] at h;simp only [aF,if_neg h.1,ih h.2]
theorem upds_in {α:Type} {f g:Nat->α} {l:aa (Nat × α)} {t:Nat} (h:t∈l.map (·.1)):aF f l t=aF g l t:=by
 induction l with
 | nil=>simp at h
 | cons p l ih=>
  simp only [bz,a_] at h;simp only [aF];split
  ·rfl
  ·rename_i aZ;exact ih (h.resolve_left aZ)
theorem zip_mem {α β:Type} {l:aa α} {v:aa β} {t:α} (h:t∈(l.zip v).map (·.1)):t∈l:=by
 obtain ⟨p,hp,rfl⟩:=bY.1 h;obtain ⟨a,b⟩:=p;exact (List.of_mem_zip hp).1
variable {r}
theorem sS_out {k t:Nat} {f:Nat->AV} (h:¬r.Wd k t):r.sS k f t=f t:=by
 simp only [Wd,not_or] at h;unfold sS;split
 ·exact upds_out fun hm=>h.1 (zip_mem hm)
 ·rfl
theorem dS_out {k t:Nat} {f:Nat->TT} (h:¬r.Wd k t):r.dS k f t=f t:=by
 simp only [Wd,not_or] at h;unfold dS;split
 ·exact upds_out h.1
 ·simp only [if_neg h.2]
theorem DD {k t:Nat} {f g:Nat->AV} (h:f t=g t):r.sS k f t=r.sS k g t:=by
 unfold sS;split
 ·by_cases hm:t∈(((r.up k).map (·.1)).zip (r.vv k)).map (·.1)
  ·exact upds_in hm
  ·rw [upds_out hm,upds_out hm,h]
 ·exact h
theorem DI {k t:Nat} {f g:Nat->TT} (h:f t=g t):r.dS k f t=r.dS k g t:=by
 unfold dS;split
 ·by_cases hm:t∈(r.up k).map (·.1)
  ·exact upds_in hm
  ·rw [upds_out hm,upds_out hm,h]
 ·simp only [h]
def lt (i:Nat):Nat->Bool:=fun j=>decide (j<i)
def ins (L:Nat->Bool) (i:Nat):Nat->Bool:=fun j=>j == i || L j
theorem s_loc {L:Nat->Bool} {i t:Nat} (hb:∀j k,r.bef j k=true->j<k) (il:∀j k,r.bef j k=true->L k=true->L j=true) (hi:L i=false) (hr:∀j,r.bef j i=true->L j=true)
  (ho:∀j,j<r.n->r.Wd j t->r.bef j i=true\/r.bef i j=true\/j=i):∀k,k<=r.n->r.sL L k t=r.sL (lt i) (min k i) t:=by
 intro k;induction k with
 | zero=>intro _;simp [sL]
 | succ k ih=>
  intro hk;have ih:=ih (by omega);simp only [sL];by_cases hw:r.Wd k t
  ·rcases ho k (by omega) hw with h1|h1|h1
   ·have bU:=hb k i h1;rw [hr k h1,if_pos rfl,show min (k+1) i=min k i+1 from by omega,show min k i=k from by omega];simp only [sL,lt,bU,decide_true,if_true];rw [show min k i=k from by omega] at ih;exact DD ih
   ·have bU:=hb i k h1;have hL:L k=false:=by
     cases hL:L k with
     | false=>rfl
     | true=>rw [il i k h1 hL] at hi;cases hi
    rw [hL,if_neg (by simp),ih];congr 1;omega
   ·subst h1;rw [hi,if_neg (by simp),ih];congr 1;omega
  ·have h1:(if L k then r.sS k (r.sL L k) else r.sL L k) t=r.sL L k t:=by
    split
    ·exact sS_out hw
    ·rfl
   rw [h1,ih];by_cases Hr:k<i
   ·rw [show min (k+1) i=k+1 from by omega,show min k i=k from by omega];simp only [sL];split
    ·rw [sS_out hw]
    ·rfl
   ·congr 1;omega
theorem d_loc {L:Nat->Bool} {i t:Nat} (hb:∀j k,r.bef j k=true->j<k) (il:∀j k,r.bef j k=true->L k=true->L j=true) (hi:L i=false) (hr:∀j,r.bef j i=true->L j=true)
  (ho:∀j,j<r.n->r.Wd j t->r.bef j i=true\/r.bef i j=true\/j=i):∀k,k<=r.n->r.dL L k t=r.dL (lt i) (min k i) t:=by
 intro k;induction k with
 | zero=>intro _;simp [dL]
 | succ k ih=>
  intro hk;have ih:=ih (by omega);simp only [dL];by_cases hw:r.Wd k t
  ·rcases ho k (by omega) hw with h1|h1|h1
   ·have bU:=hb k i h1;rw [hr k h1,if_pos rfl,show min (k+1) i=min k i+1 from by omega,show min k i=k from by omega];simp only [dL,lt,bU,decide_true,if_true];rw [show min k i=k from by omega] at ih;exact DI ih
   ·have bU:=hb i k h1;have hL:L k=false:=by
     cases hL:L k with
     | false=>rfl
     | true=>rw [il i k h1 hL] at hi;cases hi
    rw [hL,if_neg (by simp),ih];congr 1;omega
   ·subst h1;rw [hi,if_neg (by simp),ih];congr 1;omega
  ·have h1:(if L k then r.dS k (r.dL L k) else r.dL L k) t=r.dL L k t:=by
    split
    ·exact dS_out hw
    ·rfl
   rw [h1,ih];by_cases Hr:k<i
   ·rw [show min (k+1) i=k+1 from by omega,show min k i=k from by omega];simp only [dL];split
    ·rw [dS_out hw]
    ·rfl
   ·congr 1;omega
theorem s_ins {L:Nat->Bool} {i:Nat} (hi:L i=false) (Rx:∀j t,i<j->j<r.n->L j=true->¬(r.Wd i t/\r.Wd j t)) :
  ∀k,k<=r.n->∀t,r.sL (ins L i) k t=if i<k then r.sS i (r.sL L k) t else r.sL L k t:=by
 intro k;induction k with
 | zero=>intro _ t;simp [sL]
 | succ k ih=>
  intro hk t;have ih:=ih (by omega);simp only [sL];by_cases Hr:k=i
  ·subst Hr;rw [show ins L k k=true from by simp [ins],if_pos rfl,hi,if_pos (by omega),if_neg (by simp)];refine DD ?_;rw [ih t,if_neg (by omega)]
  ·have axd:ins L i k=L k:=by simp [ins,Hr]
   rw [axd];by_cases hL:L k=true
   ·rw [if_pos hL,if_pos hL];by_cases bU:i<k
    ·rw [if_pos (by omega)];by_cases hw:r.Wd k t
     ·have hn:¬r.Wd i t:=fun wG=>Rx k t bU (by omega) hL ⟨wG,hw⟩
      rw [sS_out hn];refine DD ?_;rw [ih t,if_pos bU,sS_out hn]
     ·rw [sS_out hw,ih t,if_pos bU];refine DD ?_;rw [sS_out hw]
    ·rw [if_neg (by omega)];refine DD ?_;rw [ih t,if_neg bU]
   ·rw [if_neg hL,if_neg hL];rw [ih t];by_cases bU:i<k
    ·rw [if_pos bU,if_pos (by omega)]
    ·rw [if_neg bU,if_neg (by omega)]
theorem d_ins {L:Nat->Bool} {i:Nat} (hi:L i=false) (Rx:∀j t,i<j->j<r.n->L j=true->¬(r.Wd i t/\r.Wd j t)) :
  ∀k,k<=r.n->∀t,r.dL (ins L i) k t=if i<k then r.dS i (r.dL L k) t else r.dL L k t:=by
 intro k;induction k with
 | zero=>intro _ t;simp [dL]
 | succ k ih=>
  intro hk t;have ih:=ih (by omega);simp only [dL];by_cases Hr:k=i
  ·subst Hr;rw [show ins L k k=true from by simp [ins],if_pos rfl,hi,if_pos (by omega),if_neg (by simp)];refine DI ?_;rw [ih t,if_neg (by omega)]
  ·have axd:ins L i k=L k:=by simp [ins,Hr]
   rw [axd];by_cases hL:L k=true
   ·rw [if_pos hL,if_pos hL];by_cases bU:i<k
    ·rw [if_pos (by omega)];by_cases hw:r.Wd k t
     ·have hn:¬r.Wd i t:=fun wG=>Rx k t bU (by omega) hL ⟨wG,hw⟩
      rw [dS_out hn];refine DI ?_;rw [ih t,if_pos bU,dS_out hn]
     ·rw [dS_out hw,ih t,if_pos bU];refine DI ?_;rw [dS_out hw]
    ·rw [if_neg (by omega)];refine DI ?_;rw [ih t,if_neg bU]
   ·rw [if_neg hL,if_neg hL];rw [ih t];by_cases bU:i<k
    ·rw [if_pos bU,if_pos (by omega)]
    ·rw [if_neg bU,if_neg (by omega)]
end bN
end Go.Fw
namespace Go.Fw
structure Sb (P:Program) (N:Nat) (ops:Array Oper) (St:Nat->Stp) (r:bN):Prop where
 n:r.n=ops.size
 up:∀i,i<r.n->∃ks:List Nat,r.up i=(St i).up++ks.map fun t=>(t,.dead)
 dst:∀i o,ops[i]?=some o->r.dst i=o.dst
 lt:∀j k,r.bef j k=true->j<k
 disj:∀i j t,i<j->j<r.n->r.bef i j=false->¬(r.Wd i t/\r.Wd j t)
 guard:∀i o j b,ops[i]?=some o->o.guard=some (j,b)->r.bef j i=true/\∃t,r.dst j=some t/\(∀k,k<r.n->r.Wd k t->k=j)/\(r.wn j=true->r.dL (bN.lt i) i t = .val false [.d])
 wn:∀i o,ops[i]?=some o->r.wn i=match o.guard with
  | none=>true
  | some (j,b)=>r.wn j&&(match r.dst j with
   | some t=>(match r.sL (bN.lt i) i t with
    | .v [.v (.bool c)] _=>c == b
    | _=>false)
   | none=>false)
 kill:∀i,i<r.n->r.wn i=true->∀t,t∉(r.up i).map (·.1)->(St i).kl (r.D0 t)=r.D0 t/\∀j,j<r.n->j≠i->r.bef i j=false->∀T,(t,T)∈r.up j->(St i).kl T=T
 killu:∀i,i<r.n->r.wn i=false->∀d,r.dst i=some d->∀t,t≠d->(r.D0 t).kill [d] []=r.D0 t/\∀j,j<r.n->j≠i->r.bef i j=false->∀T,(t,T)∈r.up j->T.kill [d] []=T
 step:∀i o,ops[i]?=some o->r.wn i=true->∃g,d9 P N o g (St i)/\(∀t,g t = .dead\/(g t=r.dL (bN.lt i) i t/\∀j,j<r.n->r.Wd j t->r.bef j i=true\/r.bef i j=true\/j=i)) /\
  ∀t,t∈(St i).up.map (·.1)->t∉(((St i).up.map (·.1)).zip (r.vv i)).map (·.1)->aF (fun _=>.dead) (St i).up t = .dead\/g t≠.dead
 rel:∀i,i<r.n->r.wn i=true->(St i).eff.rel P (r.sL (bN.lt i) i) (r.vv i)/\(r.vv i).length<=(St i).up.length
 unw:∀i,i<r.n->∀d,r.dst i=some d->d<N/\r.np d=false
structure RInv (ac:Nat->Nat->Value) (κ0:aP) (w0:World) (N:Nat) (r:bN) (L:Nat->Bool) (a:Act) (w:World):Prop where
 st:∃κ tg sv,R ac κ0 w0 κ w N tg sv (gm a)/\Le (r.dL L r.n) (r.sL L r.n) tg sv
 size:a.tmps.size=N
 defers:a.defers=[]
 par:∀i,r.np i=true->gm a i=r.px i
 und:∀j t,j<r.n->L j=true->r.wn j=false->r.dst j=some t->(∀k,k<r.n->r.Wd k t->k=j)->gm a t=undef
theorem Js {α β:Type}:∀{l m:aa α} {v:aa β},v.length<=l.length->(l++m).zip v=l.zip v
 | [],m,[],_=>by cases m<;>rfl
 | [],_,_::_,h=>by simp at h
 | a::l,m,[],_=>by simp
 | a::l,m,b::v,h=>by simp only [ny,Kt];rw [Js (by simpa using h)]
theorem DJ {α:Type} (f:Nat->α):∀(l m:aa (Nat × α)) (t:Nat),aF f (l++m) t=aF (aF f m) l t
 | [],m,t=>rfl
 | (d,x)::l,m,t=>by simp only [ny,aF];rw [DJ f l m t]
theorem amy (f:Nat->TT):∀(ks:aa Nat) (t:Nat),t∈ks->aF f (ks.map fun t=>(t,TT.dead)) t = .dead
 | k::ks,t,h=>by
  simp only [bz,aF];split
  ·rfl
  ·rename_i aZ;exact amy f ks t ((a_.1 h).resolve_left aZ)
 | [],_,h=>by simp at h
theorem ag_ {r:bN} {L:Nat->Bool} {t:Nat}:∀k,k<=r.n->r.dL L k t = .dead\/r.dL L k t=r.D0 t\/∃j,j<r.n/\L j=true/\(t,r.dL L k t)∈r.up j:=by
 intro k;induction k with
 | zero=>intro _;right;left;rfl
 | succ k ih=>
  intro hk;simp only [bN.dL];split
  ·rename_i hL;unfold bN.dS;split
   ·by_cases hm:t∈(r.up k).map (·.1)
    ·right;right;refine ⟨k,by omega,hL,?_⟩;generalize r.dL L k=f;generalize r.up k=l at hm;induction l with
     | nil=>simp at hm
     | cons p l ihl=>
      simp only [aF];by_cases hp:t=p.1
      ·rw [if_pos hp,hp];exact dX
      ·rw [if_neg hp];simp only [bz,a_] at hm;exact dU _ (ihl (hm.resolve_left hp))
    ·rw [bN.upds_out hm];exact ih (by omega)
   ·simp only;split
    ·exact .inl rfl
    ·exact ih (by omega)
  ·exact ih (by omega)
theorem aha (a:Act) (d:ah Tmp) (x:aj):(a.put d x).tmps.size=a.tmps.size:=by cases d<;>simp [Act.put]
theorem put_defers (a:Act) (d:ah Tmp) (x:aj):(a.put d x).defers=a.defers:=by cases d<;>rfl
section
variable {P:aS} {ac:Nat->Nat->aj} {κ0:aP} {w0:aB} {N:Nat} {ops:Array bQ} {St:Nat->Stp} {r:bN} {Q:Exit->Act->aB->Prop}
theorem adu {a:Act} {d:ah Tmp} {x:aj} {t:Nat} (h:d≠some t):gm (a.put d x) t=gm a t:=by
 cases d with
 | none=>rfl
 | some d=>
  have:t≠d:=fun he=>h (by rw [he])
  simp [gm,Act.put,rP,abU,h_ this]
theorem aso (aV:Sb P N ops St r) {L:Nat->Bool} {a:Act} {w:aB} (vU:RInv ac κ0 w0 N r L a w) {i:Nat} {o:bQ} (ho:ops[i]?=some o) (hi:L i=false)
  (il:∀j k,r.bef j k=true->L k=true->L j=true) (hr:∀j,r.bef j i=true->L j=true):Region.wanted o (yielded ops a.tmps)=r.wn i:=by
 have bq:i<r.n:=by rw [aV.n];exact (aoQ.1 ho).1
 rw [aV.wn i o ho];unfold Region.wanted;cases hg:o.guard with
 | none=>rfl
 | some p=>
  obtain ⟨j,b⟩:=p;obtain ⟨hb,t,hdj,rM,hT⟩:=aV.guard i o j b ho hg;have hjn:j<r.n:=by have:=aV.lt j i hb;omega
  have hjo:∃oj,ops[j]?=some oj/\oj.dst=some t:=by
   have h1:j<ops.size:=by rw [<-aV.n];exact hjn
   exact ⟨ops[j],by simp [h1],by rw [<-aV.dst j _ (by simp [h1])];exact hdj⟩
  obtain ⟨oj,FR,aF6⟩:=hjo;have hyl:yielded ops a.tmps j=match a.tmps[t]? with
   | some (.bool b)=>some b
   | _=>none:=by
   unfold yielded;simp only [FR,aF6,ae];cases a.tmps[t]? with
   | none=>rfl
   | some x=>cases x<;>rfl
  simp only [hdj,hyl];cases hw:r.wn j with
  | false=>
   have hu:=vU.und j t hjn (hr j hb) hw hdj rM;simp only [gm,rP] at hu;cases ha:a.tmps[t]? with
   | none=>simp
   | some x=>rw [ha] at hu;simp at hu;subst hu;simp [undef]
  | true=>
   obtain ⟨κ,tg,sv,hR,FU⟩:=vU.st;have XM:∀k,k<r.n->r.Wd k t->r.bef k i=true\/r.bef i k=true\/k=i:=fun k hk wG=>by rw [rM k hk wG];exact .inl hb
   have hd1:=bN.d_loc (r:=r) aV.lt il hi hr XM r.n (eY _);have kK:=bN.s_loc (r:=r) aV.lt il hi hr XM r.n (eY _);rw [show min r.n i=i from by omega] at hd1 kK;rw [hT hw] at hd1;obtain ⟨e1,e2⟩:=FU.at hd1 (by simp);have h1:=hR.tr t;rw [e1] at h1;simp only [TR] at h1;obtain ⟨as,vs,g1,g2,g3,_,g5⟩:=h1;rw [e2,kK] at g1;have:=kg g2;subst this;cases as with
   | nil=>simp [aC] at g5
   | cons x as=>
    cases as with
    | cons=>simp [aC] at g5
    | nil=>
     simp only [aC] at g5;cases x with
     | s xs=>simp [RC] at g5
     | v y=>
      simp only [RC,uM] at g5;obtain ⟨⟨h2,h3⟩,_⟩:=g5;have bU:t<a.tmps.size:=by
       rw [vU.size];apply sW;intro df;have:=hR.out t df;rw [e1] at this;cases this
      have qC:a.tmps[t]?=some y:=by
       simp only [gm,rP] at h2;rw [We bU] at h2 ⊢;simpa using h2
      rw [qC,g1];cases y<;>simp [sc] at h3 ⊢
theorem ahb (aV:Sb P N ops St r) {L:Nat->Bool} {a:Act} {w:aB} (vU:RInv ac κ0 w0 N r L a w) {i:Nat} (bq:i<r.n) (hi:L i=false)
  (il:∀j k,r.bef j k=true->L k=true->L j=true) (hr:∀j,r.bef j i=true->L j=true) (K:Act->aB->Prop) (hK:∀a' w',RInv ac κ0 w0 N r (bN.ins L i) a' w'->K a' w'):wpOp P ops Q i K a w:=by
 have h1:i<ops.size:=by rw [<-aV.n];exact bq
 have ho:ops[i]?=some ops[i]:=by simp [h1]
 unfold wpOp;rw [ho];simp only;rw [aso aV vU ho hi il hr];have Rx:∀j t,i<j->j<r.n->L j=true->¬(r.Wd i t/\r.Wd j t):=fun j t wI hj hL=>by
  refine aV.disj i j t wI hj ?_;cases hb:r.bef i j with
  | false=>rfl
  | true=>rw [il i j hb hL] at hi;cases hi
 have hsi:=fun t=>bN.s_ins (r:=r) hi Rx r.n (eY _) t
 have hdi:=fun t=>bN.d_ins (r:=r) hi Rx r.n (eY _) t
 simp only [if_pos bq] at hsi hdi;obtain ⟨κ,tg,sv,hR,FU⟩:=vU.st;have MS:=aV.dst i _ ho;have arL:∀x j,r.np j=true->gm (a.put ops[i].dst x) j=r.px j:=by
  intro x j hj;rw [adu (fun he=>by
   have:=(aV.unw i bq j (by rw [MS,he])).2
   rw [this] at hj;cases hj)]
  exact vU.par j hj
 -- what was not run stays so
 have aCK:∀x j t,j<r.n->bN.ins L i j=true->r.wn j=false->r.dst j=some t->(∀k,k<r.n->r.Wd k t->k=j)->(j=i->x=undef)->gm (a.put ops[i].dst x) t=undef:=by
  intro x j t hj Kl hwj hd rM hx;by_cases iA:j=i
  ·subst iA;rw [hx rfl,<-MS,hd,qf (by rw [vU.size];exact (aV.unw j hj t hd).1),bD]
  ·have aZ:ops[i].dst≠some t:=fun he=>iA (rM i bq (.inr (by rw [MS,he]))).symm
   rw [adu aZ];refine vU.und j t hj ?_ hwj hd rM;have:(j == i)=false:=by simpa using iA
   simpa [bN.ins,this] using Kl
 cases hw:r.wn i with
 | false=>
  simp only [iP,if_false];refine hK _ _ ⟨?_,by rw [aha];exact vU.size,by rw [put_defers];exact vU.defers,arL undef,fun j t hj Kl hwj hd rM=>aCK undef j t hj Kl hwj hd rM fun _=>rfl⟩;cases hd:r.dst i with
  | none=>
   rw [hd] at MS;refine ⟨κ,tg,sv,by rw [<-MS,DC];exact hR,fun t => ?_⟩;rw [hdi t,hsi t];simp only [bN.dS,bN.sS,hw,hd,iP,if_false];simpa using FU t
  | some d=>
   rw [hd] at MS;have hdN:=(aV.unw i bq d hd).1;refine ⟨_,_,_,by rw [<-MS,qf (by rw [vU.size];exact hdN)];exact ar9 hR hdN (av:=.n) (x:=undef) (Grows.refl w),fun t => ?_⟩;rw [hdi t,hsi t];simp only [bN.dS,bN.sS,hw,hd,iP,if_false,kG,upd];by_cases fE:t=d
   ·subst fE;exact .inl (by simp)
   ·rw [if_neg fE,if_neg fE,if_neg (fun he=>fE (Option.some.inj he).symm)];have hku:=aV.killu i bq hw d hd t fE;have tX:=ag_ (r:=r) (L:=L) (t:=t) r.n (eY _);rcases FU t with h2|⟨h2,h3⟩
    ·exact .inl h2
    ·rcases tX with h4|h4|⟨j,hj,Kl,h4⟩
     ·exact .inl h4
     ·right;refine ⟨?_,h3⟩;rw [<-h2,h4,hku.1]
     ·right;refine ⟨?_,h3⟩;have iA:j≠i:=fun he=>by rw [he,hi] at Kl;cases Kl
      have hbf:r.bef i j=false:=by
       cases hb:r.bef i j with
       | false=>rfl
       | true=>rw [il i j hb Kl] at hi;cases hi
      rw [<-h2,hku.2 j hj iA hbf _ h4]
 | true=>
  simp only [if_true];left;obtain ⟨g,aF7,hg,hto⟩:=aV.step i _ ho hw;obtain ⟨kv,Ck⟩:=aV.rel i bq hw;have XM:=fun t ht=>bN.d_loc (r:=r) (t:=t) aV.lt il hi hr ht r.n (eY _)
  have aCM:=fun t ht=>bN.s_loc (r:=r) (t:=t) aV.lt il hi hr ht r.n (eY _)
  rw [show min r.n i=i from by omega] at XM aCM;have hLg:Le g (r.sL (bN.lt i) i) tg sv:=fun t=>by
   rcases hg t with h2|⟨h2,h3⟩
   ·exact .inl h2
   ·rcases FU t with h4|⟨h4,h5⟩
    ·left;rw [h2,<-XM t h3,h4]
    ·right;exact ⟨by rw [h2,<-XM t h3,h4],by rw [<-aCM t h3,h5]⟩
  refine aF7 ac κ0 κ w0 w tg sv _ a (r.vv i) _ Q vU.size hR hLg kv fun x w' κ' tg' sv' jq sM jF => ?_
  refine hK _ _ ⟨⟨κ',tg',sv',jq,fun t => ?_⟩,by rw [aha];exact vU.size,by rw [put_defers];exact vU.defers,arL x,fun j t hj Kl hwj hd rM=>aCK x j t hj Kl hwj hd rM fun he=>by rw [he,hw] at hwj;cases hwj⟩;rw [hdi t,hsi t];simp only [bN.dS,bN.sS,hw,if_true];obtain ⟨ks,hks⟩:=aV.up i bq;rw [sM t,jF t];have aF8:((r.up i).map (·.1)).zip (r.vv i)=((St i).up.map (·.1)).zip (r.vv i):=by
   rw [hks,uN];exact Js (by simpa using Ck)
  rw [aF8];by_cases hm:t∈(r.up i).map (·.1)
  ·rw [hks] at hm ⊢;rw [DJ];by_cases hm1:t∈(St i).up.map (·.1)
   ·have ht:aF (aF (r.dL L r.n) (ks.map fun t=>(t,TT.dead))) (St i).up t=aF (fun t=>(St i).kl (tg t)) (St i).up t:=bN.upds_in hm1;by_cases hz:t∈(((St i).up.map (·.1)).zip (r.vv i)).map (·.1)
    ·exact .inr ⟨ht,bN.upds_in hz⟩
    ·rcases hto t hm1 hz with h2|h2
     ·left;rw [<-h2];exact bN.upds_in hm1
     ·right;refine ⟨ht,?_⟩;rw [bN.upds_out hz,bN.upds_out hz];rcases hg t with h3|⟨h3,h4⟩
      ·exact absurd h3 h2
      ·rcases FU t with h5|h5
       ·exact absurd (by rw [h3,<-XM t h4,h5]) h2
       ·exact h5.2
   ·left;rw [bN.upds_out hm1];refine amy _ ks t ?_;rw [uN,bJ] at hm;simpa using hm.resolve_left hm1
  ·have NN:t∉(St i).up.map (·.1):=fun h=>hm (by rw [hks,uN,bJ];exact .inl h)
   rw [bN.upds_out hm,bN.upds_out NN,bN.upds_out (fun h=>NN (bN.zip_mem h)),bN.upds_out (fun h=>NN (bN.zip_mem h))];have hku:=aV.kill i bq hw t hm;have tX:=ag_ (r:=r) (L:=L) (t:=t) r.n (eY _);rcases FU t with h2|⟨h2,h3⟩
   ·exact .inl h2
   ·rcases tX with h4|h4|⟨j,hj,Kl,h4⟩
    ·exact .inl h4
    ·right;refine ⟨?_,h3⟩;rw [<-h2,h4,hku.1]
    ·right;refine ⟨?_,h3⟩;have iA:j≠i:=fun he=>by rw [he,hi] at Kl;cases Kl
     have hbf:r.bef i j=false:=by
      cases hb:r.bef i j with
      | false=>rfl
      | true=>rw [il i j hb Kl] at hi;cases hi
     rw [<-h2,hku.2 j hj iA hbf _ h4]
end
end Go.Fw
namespace Go.Fw
theorem ahc (S:aa Nat):meets S []=false:=by simp [meets]
theorem azq (T:TT):T.kill [] []=T:=by
 cases T with
 | alias ag cs r sk off S=>
  have:=ada.mens_nil cs;simp [TT.kill,ahc,this]
 | ptr r sk off S=>simp [TT.kill,ahc]
 | val=>simp [TT.kill,KD]
 | box=>simp [TT.kill,KD]
 | tup=>simp [TT.kill,KD]
 | dead=>simp [TT.kill]
section
variable {P:aS} {ac:Nat->Nat->aj} {κ0 κ:aP} {w0 w:aB} {N:Nat} {tg:Nat->TT} {sv:Nat->AV} {tm:Nat->aj}
theorem asq {w w':aB} {S:aa Nat} {b:Nat} (hw:w'.heap=w.heap) (h:bn κ w S b):bn κ w' S b:=⟨by rw [hw];exact h.1,h.2⟩
theorem aAI (h:R ac κ0 w0 κ w N tg sv tm) {w':aB} (hh:w'.heap=w.heap) (ho:w'.os=w.os) (hu:w'.output=w.output) (ht:w'.tape=w.tape):R ac κ0 w0 κ w' N tg sv tm:=by
 have hs:∀b,Same w w' b:=fun b=>⟨fun hb=>by rw [hh];exact hb,fun o x hx=>by
  simp only [World.cell?,World.frozen?,hh] at hx ⊢
  exact ⟨hx,trivial⟩⟩
 refine ul (mods:=[]) (M:=[]) h (by simp) (fun S _ b hb=>⟨asq hh hb,hs b⟩) (fun b r q _ hb=>⟨rfl,hs b⟩) (fun r _=>.inl (azq _).symm) (fun _ _=>rfl) (fun _ _=>rfl) (fun t ht=>by simp at ht) h.out (fun b hb=>h.col b (by rw [<-hh];exact hb)) ?_;exact ⟨by rw [hh];exact h.fr.size,fun b hb h0=>by rw [hh];exact h.fr.kept b hb h0,by rw [ho];exact h.fr.os,by rw [hu];exact h.fr.out,by rw [ht];exact h.fr.tape⟩
end
namespace bN
variable {r:bN}
theorem sL_congr {L L':Nat->Bool} (n:Nat) (h:∀j,j<n->L j=L' j):r.sL L n=r.sL L' n:=by
 induction n with
 | zero=>rfl
 | succ n ih=>simp only [sL];rw [ih fun j hj=>h j (by omega),h n (by omega)]
theorem dL_congr {L L':Nat->Bool} (n:Nat) (h:∀j,j<n->L j=L' j):r.dL L n=r.dL L' n:=by
 induction n with
 | zero=>rfl
 | succ n ih=>simp only [dL];rw [ih fun j hj=>h j (by omega),h n (by omega)]
theorem sL_none (n:Nat) {L:Nat->Bool} (h:∀j,j<n->L j=false):r.sL L n=r.s0:=by
 induction n with
 | zero=>rfl
 | succ n ih=>simp only [sL];rw [h n (by omega),if_neg (by simp)];exact ih fun j hj=>h j (by omega)
theorem dL_none (n:Nat) {L:Nat->Bool} (h:∀j,j<n->L j=false):r.dL L n=r.D0:=by
 induction n with
 | zero=>rfl
 | succ n ih=>simp only [dL];rw [h n (by omega),if_neg (by simp)];exact ih fun j hj=>h j (by omega)
theorem ins_lt (k:Nat):ins (lt k) k=lt (k+1):=by
 funext j;simp only [ins,lt];by_cases h:j=k
 ·subst h;simp
 ·have:(j == k)=false:=by simpa using h
  rw [this,wK];congr 1;simp only [eq_iff_iff];omega
end bN
section
variable {P:aS} {ac:Nat->Nat->aj} {κ0:aP} {w0:aB} {N:Nat} {ops:Array bQ} {St:Nat->Stp} {r:bN} {Q:Exit->Act->aB->Prop}
theorem RInv.congr {L L':Nat->Bool} {a:Act} {w:aB} (h:RInv ac κ0 w0 N r L a w) (hL:∀j,j<r.n->L j=L' j):RInv ac κ0 w0 N r L' a w:=by
 refine ⟨?_,h.size,h.defers,h.par,fun j t hj hl hw hd ho=>h.und j t hj (by rw [hL j hj];exact hl) hw hd ho⟩;rw [<-bN.dL_congr (r:=r) r.n hL,<-bN.sL_congr (r:=r) r.n hL];exact h.st
theorem ahd (aV:Sb P N ops St r) (hQ:∀a w,RInv ac κ0 w0 N r (bN.lt r.n) a w->Q .normal a w) :
  ∀(m k:Nat) (a:Act) (w:aB),k+m=r.n->RInv ac κ0 w0 N r (bN.lt k) a w->wpOps P ops Q (List.range' k m) a w
 | 0,k,a,w,hk,h=>by
  simp only [List.range',wpOps];exact hQ a w (by rw [show r.n=k from by omega];exact h)
 | m+1,k,a,w,hk,h=>by
  rw [List.range'_succ,wpOps_cons];refine ahb aV h (i:=k) (by omega) (by simp [bN.lt]) (fun j k' hb hl => ?_) (fun j hb => ?_) _ fun a' w' h' => ?_
  ·have:=aV.lt j k' hb;simp only [bN.lt,decide_eq_true_eq] at hl ⊢;omega
  ·have:=aV.lt j k hb;simp only [bN.lt,decide_eq_true_eq];omega
  ·rw [bN.ins_lt] at h';exact ahd aV hQ m (k+1) a' w' (by omega) h'
end
end Go.Fw
namespace Go.Fw
def agv (o:bQ):Bool:=match o.op with
 | .extract (.tmp _) _=>true
 | .move _=>true
 | _=>false
theorem afY {P:aS} {ops:Array bQ} {i:Nat} {o:bQ} {a:Act} {w:aB} {K:Act->aB->Prop} (hi:ops[i]?=some o) (hx:agv o=true) (hg:o.guard=none)
  (h:wpOp P ops (fun _ _ _=>False) i K a w):∃v,Yields P ops o v a/\K (a.put o.dst v) w:=by
 have hwt:Region.wanted o (yielded ops a.tmps)=true:=by simp [Region.wanted,hg]
 unfold wpOp at h;simp only [hi,hwt,if_true] at h;have h:o.wp P a w K (fun _ _ _=>False):=by
  rcases h with h|⟨_,_,_,h⟩
  ·exact h
  ·exact h.elim
 unfold agv at hx;split at hx;case h_3=>cases hx
 case h_2 x lU=>
  have hr:∀w,(execOp a.eval o).run P w = .ok (.value (a.eval x)) w:=by
   intro w;unfold execOp;rw [lU];rfl
  unfold Oper.wp at h;rw [hr w] at h;exact ⟨_,.inl ⟨hwt,hr⟩,h⟩
 case h_1 t n lU=>
 have pK:execOp a.eval o=(do pure (Next.value (<-Instr.extract (a.eval (.tmp t)) n)):Sem Next):=by
  unfold execOp;rw [lU]
 unfold Oper.wp at h;rw [pK] at h;cases hv:a.eval (.tmp t) with
 | tuple xs=>
  cases hn:xs[n]? with
  | some v=>
   have hr:∀w,(execOp a.eval o).run P w = .ok (.value v) w:=by
    intro w;rw [pK,hv];refine dJ ?_;unfold Instr.extract;simp only [hn];rfl
   have h2:=hr w;rw [pK] at h2;rw [h2] at h;exact ⟨v,.inl ⟨hwt,hr⟩,h⟩
  | none=>
   rw [hv] at h;unfold Instr.extract at h;simp only [hn] at h;exact h.elim
 | _=>
  rw [hv] at h;exact h.elim
section
variable {P:aS} {ac:Nat->Nat->aj} {κ0:aP} {w0:aB} {N:Nat} {ops:Array bQ} {St:Nat->Stp} {r:bN} {Q:Exit->Act->aB->Prop}
theorem av1 (aV:Sb P N ops St r) (eg:Nat->Bool)
  (hbd:∀i o j,ops[i]?=some o->r.bef j i=true->(∃e,e∈o.after/\Region.binds .any e=true/\(e.on=j\/r.bef j e.on=true)) \/
   (j<i/\eg j=true/\∀oj,ops[j]?=some oj->∀e,e∈oj.after->Region.binds .any e=true->∃e',e'∈o.after/\Region.binds .any e'=true/\(e'.on=e.on\/r.bef e.on e'.on=true)))
  (hae:∀i o e,ops[i]?=some o->e∈o.after->Region.binds .any e=true->e.on<i)
  (heg:∀i o,ops[i]?=some o->eg i=true->agv o=true/\o.guard=none/\∀j oj,ops[j]?=some oj->j≠i->(∀e∈oj.after,Region.binds .any e=true->e.on≠i)->(∀e∈o.after,Region.binds .any e=true->e.on≠j)->o.apart ops oj=true)
  (XN:∀(j:Nat) (o:bQ) cs b,ops[j]?=some o->o.op≠.select cs b)
  (aF9:∀c a w,¬Q (.panic c) a w) (hQ:∀a w,RInv ac κ0 w0 N r (bN.lt r.n) a w->Q .normal a w) :
  ∀(fuel:Nat) (listed:Array Bool) (a:Act) (w:aB),listed.size=ops.size->(∀j k,r.bef j k=true->listed.getD k false=true->listed.getD j false=true) ->
   ((List.range ops.size).filter fun j=>!listed.getD j false).length<=fuel->RInv ac κ0 w0 N r (fun j=>listed.getD j false) a w->wpAny P .any ops Q fuel listed a w:=by
 have done:∀(listed:Array Bool) (a:Act) (w:aB),listed.size=ops.size->Region.ready .any ops listed=[]->RInv ac κ0 w0 N r (fun j=>listed.getD j false) a w->Q .normal a w:=by
  intro listed a w dH mK h;have all:∀j,j<ops.size->listed.getD j false=true:=by
   intro j;induction j using Nat.strongRecOn with
   | ind j ih=>
    intro hj;cases hl:listed.getD j false with
    | true=>rfl
    | false=>
     exfalso;have:j∈Region.ready .any ops listed:=by
      rw [mem_ready];refine ⟨?_,ops[j],by simp [hj],fun e he hb => ?_⟩
      ·simp only [rP] at hl ⊢;rw [We (by omega)] at hl ⊢;simpa using hl
      ·have bU:=hae j _ e (by simp [hj]) he hb;exact ih e.on bU (by omega)
     rw [mK] at this;simp at this
  refine hQ a w (h.congr fun j hj => ?_);rw [all j (by rw [<-aV.n];exact hj)];simp [bN.lt,hj]
 intro fuel;induction fuel with
 | zero=>
  intro listed a w dH il hf h;have mK:Region.ready .any ops listed=[]:=by
   rw [List.eq_nil_iff_forall_not_mem];intro i hi;rw [mem_ready] at hi;obtain ⟨h1,o,h2,_⟩:=hi;have bq:i<ops.size:=(aoQ.1 h2).1;have h3:i∈(List.range ops.size).filter fun j=>!listed.getD j false:=by
    rw [jQ,jg];refine ⟨bq,?_⟩;simp only [rP] at h1 ⊢;rw [We (by omega)] at h1 ⊢;simpa using h1
   have h4:=qW.1 (Nat.le_zero.1 hf);rw [h4] at h3;simp at h3
  exact ⟨mK,done listed a w dH mK h⟩
 | succ fuel ih=>
  intro listed a w dH il hf h
  -- one that is ready,ahead of which stand only such as are done
  have go:∀i,i∈Region.ready .any ops listed->(∀j,r.bef j i=true->listed.getD j false=true)->∀(Q':Exit->Act->aB->Prop),wpOp P ops Q' i (wpAny P .any ops Q fuel (listed.setIfInBounds i true)) a w:=by
   intro i hi gQ Q';rw [mem_ready] at hi;obtain ⟨h1,o,h2,h3⟩:=hi;have bq:i<ops.size:=(aoQ.1 h2).1;have hli:listed.getD i false=false:=by
    simp only [rP] at h1 ⊢;rw [We (by omega)] at h1 ⊢;simpa using h1
   refine ahb aV h (by rw [aV.n];exact bq) hli il gQ _ fun a' w' h' => ?_
   have Jf:∀j,(listed.setIfInBounds i true).getD j false=(j == i || listed.getD j false):=by
    intro j;simp only [rP,abU];by_cases iA:i=j
    ·subst iA;simp [show i<listed.size by omega]
    ·have:(j == i)=false:=by simpa using h_ iA
     simp [iA,this]
   refine ih _ a' w' (by simpa using dH) (fun j k hb hl => ?_) ?_ (h'.congr fun j _=>by rw [Jf j];rfl)
   ·rw [Jf] at hl ⊢;simp only [iE,beq_iff_eq] at hl ⊢;rcases hl with rfl|hl
    ·exact .inr (gQ j hb)
    ·exact .inr (il j k hb hl)
   ·have gT:((List.range ops.size).filter fun j=>!(listed.setIfInBounds i true).getD j false).length<((List.range ops.size).filter fun j=>!listed.getD j false).length:=by
     have h4:((List.range ops.size).filter fun j=>!(listed.setIfInBounds i true).getD j false)=((List.range ops.size).filter fun j=>!listed.getD j false).filter fun j=>!(j == i):=by
      rw [List.filter_filter];congr 1;funext j;rw [Jf];cases (j == i)<;>simp
     rw [h4];refine List.length_filter_lt_length_iff_exists.2 ⟨i,?_,by simp⟩;rw [jQ,jg];exact ⟨bq,by rw [hli];rfl⟩
    omega
  -- of two of them the first is there,or can be done
  have pair:∀i o j,ops[i]?=some o->i∈Region.ready .any ops listed->j<i->(∀oj,ops[j]?=some oj->∀e,e∈oj.after->Region.binds .any e=true->∃e',e'∈o.after/\Region.binds .any e'=true/\(e'.on=e.on\/r.bef e.on e'.on=true)) ->
    listed.getD j false=false->j∈Region.ready .any ops listed:=by
   intro i o j h2 hi iA hde hl;obtain ⟨h1,o',BC,h3⟩:=mem_ready.1 hi;rw [h2] at BC;cases BC;have uh:j<ops.size:=by
    have:=(aoQ.1 h2).1;omega
   rw [mem_ready];refine ⟨?_,ops[j],by simp [uh],fun e he cO => ?_⟩
   ·simp only [rP] at hl ⊢;rw [We (by omega)] at hl ⊢;simpa using hl
   ·obtain ⟨e',h4,h5,h6⟩:=hde _ (by simp [uh]) e he cO;have:=h3 e' h4 h5;rcases h6 with h6|h6
    ·rw [<-h6];exact this
    ·exact il _ _ h6 this
  by_cases hE:∃i,i∈Region.ready .any ops listed/\eg i=true
  ·-- the first of them
   have ac8:∀n,(∃i,i<n/\i∈Region.ready .any ops listed/\eg i=true)->∃i,(i∈Region.ready .any ops listed/\eg i=true)/\∀j,j<i->¬(j∈Region.ready .any ops listed/\eg j=true):=by
    intro n;induction n with
    | zero=>rintro ⟨i,h,_⟩;omega
    | succ n ihn=>
     rintro ⟨i,bU,h1⟩;by_cases pK:∃i,i<n/\i∈Region.ready .any ops listed/\eg i=true
     ·exact ihn pK
     ·have:i=n:=by
       by_cases bq:i<n
       ·exact absurd ⟨i,bq,h1⟩ pK
       ·omega
      subst this;exact ⟨i,h1,fun j hj hc=>pK ⟨j,hj,hc⟩⟩
   obtain ⟨i0,hi0⟩:=hE;obtain ⟨i,⟨hi,hgi⟩,hm⟩:=ac8 (i0+1) ⟨i0,by omega,hi0⟩;obtain ⟨h1,o,h2,h3⟩:=mem_ready.1 hi;obtain ⟨hx,BG,hap⟩:=heg i o h2 hgi;have gQ:∀j,r.bef j i=true->listed.getD j false=true:=by
    intro j hb;rcases hbd i o j h2 hb with ⟨e,he,hbi,V5⟩|⟨iA,hgj,hde⟩
    ·have hl:=h3 e he hbi;rcases V5 with rfl|V5
     ·exact hl
     ·exact il j e.on V5 hl
    ·cases hl:listed.getD j false with
     | true=>rfl
     | false=>exact absurd ⟨pair i o j h2 hi iA hde hl,hgj⟩ (hm j iA)
   obtain ⟨v,hy,hk⟩:=afY h2 hx BG (go i hi gQ _);exact wpAny_first h2 XN (fun c a w h=>absurd h (aF9 c _ _)) fuel listed a w (fun j oj hj aZ hun eF=>hap j oj hj aZ eF fun e he cO rJ=>by
    have:=h3 e he cO
    rw [rJ] at this
    rcases Nat.lt_or_ge j listed.size with h'|h'
    ·simp [h'] at this hun;rw [hun] at this;cases this
    ·simp [agq h'] at this) hi hy hk
  ·refine ⟨fun mK=>done listed a w dH mK h,fun i hi => ?_⟩;obtain ⟨h1,o,h2,h3⟩:=mem_ready.1 hi;refine go i hi (fun j hb => ?_) _;rcases hbd i o j h2 hb with ⟨e,he,hbi,V5⟩|⟨iA,hgj,hde⟩
   ·have hl:=h3 e he hbi;rcases V5 with rfl|V5
    ·exact hl
    ·exact il j e.on V5 hl
   ·cases hl:listed.getD j false with
    | true=>rfl
    | false=>exact absurd ⟨j,pair i o j h2 hi iA hde hl,hgj⟩ hE
end
end Go.Fw
namespace Go.Fw
def Eff.pre (f:(Nat->AV)->ah (Nat->AV)):Eff->Eff
 | .det h=>.det fun s=>match f s with
  | some s1=>h s1
  | none=>none
 | .call K sg args post=>.call K sg (fun s=>match f s with
  | some s1=>args s1
  | none=>none) fun res outs s=>match f s with
  | some s1=>post res outs s1
  | none=>none
def F5 (t:Nat) (s:Nat->AV):ah (Nat->AV):=
 match iK t s with
 | some as=>some (upd s t (.v as []))
 | none=>none
theorem Eff.pre_rel {P:aS} {f:(Nat->AV)->ah (Nat->AV)} {E:Eff} {s:Nat->AV} {v:aa AV} (h:(E.pre f).rel P s v):∃s1,f s=some s1/\E.rel P s1 v:=by
 cases E with
 | det h0=>
  simp only [Eff.pre,Eff.rel] at h;split at h
  ·rename_i s1 hs;exact ⟨s1,hs,h⟩
  ·cases h
 | call K sg args post=>
  simp only [Eff.pre,Eff.rel] at h;obtain ⟨as,res,outs,h1,h2,h3⟩:=h;split at h1
  ·rename_i s1 hs;rw [hs] at h3;exact ⟨s1,hs,as,res,outs,h1,h2,h3⟩
  ·cases h1
def Stp.take (t:Nat) (S1 S2:Stp):Stp:=⟨S2.up++S1.up.map (fun p=>(p.1,S2.kl p.2)),fun T=>S2.kl (S1.kl T),t::S2.rd,S2.eff.pre (F5 t)⟩
def rY (g:Nat->TT) (S:Stp):Nat->TT:=aF (fun t=>S.kl (g t)) S.up
theorem azr {P:aS} {N:Nat} {g:Nat->TT} {o:bQ} {t:Nat} {S1 S2:Stp} (h1:qE N g t=some S1) (hk:S1.kl .dead = .dead) (hk2:S2.kl .dead = .dead) (h2:d9 P N o (rY g S1) S2) (ht:t∈S2.up.map (·.1)) (hv:∀s v,S2.eff.rel P s v->v.length<=S2.up.length)  :
  d9 P N o g (Stp.take t S1 S2):=by
 intro ac κ0 κ w0 w tg sv s a v next Q hN hR hL hv0 bT;simp only [Stp.take] at hv0;obtain ⟨s1,kK,kv⟩:=Eff.pre_rel hv0;simp only [F5] at kK;split at kK;case h_2=>cases kK
 case h_1 as jH=>
 cases kK;have nk:∃T1 r T2,S1.up=[(t,T1),(r,T2)]/\t≠r/\S1.eff = .det (gF t)/\g r≠.dead/\g t≠.dead:=by
  unfold qE at h1;split at h1;case h_2=>cases h1
  case h_1 ag cs0 r off S0 hT=>
  split at h1
  ·rename_i gg cs hr;split at h1
   ·rename_i hc;cases h1;exact ⟨_,r,_,rfl,hc.2.2.1,rfl,by rw [hr];simp,by rw [hT];simp⟩
   ·cases h1
  ·rename_i cs hr;split at h1
   ·rename_i hc;cases h1;exact ⟨_,r,_,rfl,hc.2.2.1,rfl,by rw [hr];simp,by rw [hT];simp⟩
   ·cases h1
  ·cases h1
 obtain ⟨T1,r,T2,nk,Hq,axe,gP,NH⟩:=nk;have hps:=ao_ (P:=P) h1;obtain ⟨κ',tg',sv',jq,aCO,aCP⟩:=hps ac κ0 κ w0 w tg sv s (gm a) [.v as []] hR hL (by rw [axe];simp [Eff.rel,gF,jH]);have hL':Le (rY g S1) (upd s t (.v as [])) tg' sv':=by
  intro u;rw [aCO u,aCP u];simp only [rY,nk,aF,bz,bM,Kt,List.zip_nil_right,upd];by_cases FO:u=t
  ·simp [FO]
  ·simp only [if_neg FO];by_cases yx:u=r
   ·subst yx;simp only [if_true];right;refine ⟨trivial,?_⟩;rcases hL u with h3|h3
    ·exact absurd h3 gP
    ·exact h3.2
   ·simp only [if_neg yx];rcases hL u with h3|⟨h3,h4⟩
    ·left;rw [h3,hk]
    ·right;exact ⟨by rw [h3],h4⟩
 refine h2 ac κ0 κ' w0 w tg' sv' _ a v next Q hN jq hL' kv fun x w' κ'' tg'' sv'' akE abM abN => ?_
 have Ck:=hv _ _ kv;refine bT x w' κ'' tg'' sv'' akE (fun u => ?_) (fun u => ?_)
 ·rw [abM u];simp only [Stp.take];rw [DJ];by_cases hu:u∈S2.up.map (·.1)
  ·exact bN.upds_in hu
  ·rw [bN.upds_out hu,bN.upds_out hu,aCO u,nk];simp only [aF,bz,bM];split
   ·rfl
   ·split<;>rfl
 ·rw [abN u];simp only [Stp.take];have hz:((S2.up++S1.up.map fun p=>(p.1,S2.kl p.2)).map (·.1)).zip v=(S2.up.map (·.1)).zip v:=by
   rw [uN];exact Js (by simpa using Ck)
  rw [hz];by_cases hu:u∈((S2.up.map (·.1)).zip v).map (·.1)
  ·exact bN.upds_in hu
  ·rw [bN.upds_out hu,bN.upds_out hu,aCP u,nk];simp only [aF,bz,bM,Kt,List.zip_nil_right];split
   ·rename_i FO;subst FO;have BA:∃ag cs0 r off S0,g u = .alias ag cs0 r [] off S0:=by
     unfold qE at h1;split at h1
     ·rename_i ag cs0 r off S0 hT;exact ⟨_,_,_,_,_,hT⟩
     ·cases h1
    obtain ⟨ag,cs0,r',off,S0,hT⟩:=BA;obtain ⟨e1,e2⟩:=hL.at hT (by simp);have h5:=hR.tr u;rw [e1] at h5;simp only [TR] at h5;obtain ⟨as',is,vs,gf,ra,row,k1,_,_,_,_,k5,_⟩:=h5;have pJ:is=[]:=by
     cases is with
     | nil=>rfl
     | cons=>simp [fJ] at k5
    subst pJ;rw [k1];obtain ⟨is2,FQ⟩:=cK jH;rw [e2,FQ] at k1;cases k1;rfl
   ·rfl
end Go.Fw
namespace Go.Fw
def woff:aa (Bool × Nat)->Nat->Nat
 | [],_=>0
 | _,0=>0
 | (_,n)::ws,i+1=>n+woff ws i
theorem Oc:∀{ws:aa (Bool × Nat)} {xs vs:aa aj} {i:Nat} {ag:Bool} {n:Nat},uO ws xs=some vs->ws[i]?=some (ag,n) ->
  ∃x,xs[i]?=some x/\cellsOf ag x=some ((vs.drop (woff ws i)).take n)/\woff ws i+n<=vs.length
 | [],_,_,_,_,_,_,h=>by simp at h
 | _::_,[],_,_,_,_,h,_=>by simp [uO] at h
 | (g,m)::ws,x::xs,vs,i,ag,n,h,hw=>by
  simp only [uO] at h;split at h;case h_2=>cases h
  case h_1 a b ha hb=>
  split at h;case isFalse=>cases h
  case isTrue hm=>
  cases h;cases i with
  | zero=>
   simp at hw;obtain ⟨rfl,rfl⟩:=hw;refine ⟨x,by simp,?_,?_⟩
   ·simp only [woff,tu];rw [<-hm,List.take_left];exact ha
   ·simp [woff,hm]
  | succ i=>
   obtain ⟨y,h1,h2,h3⟩:=Oc hb (by simpa using hw);refine ⟨y,by simpa using h1,?_,?_⟩
   ·simp only [woff];rw [<-hm,<-List.drop_drop,List.drop_left];exact h2
   ·simp only [woff,dR];omega
def uu (t off n:Nat) (s:Nat->AV):ah (aa AV):=(iK t s).map fun as=>[.v ((as.drop off).take n) []]
def ahe (N:Nat) (g:Nat->TT) (o:bQ):ah Stp:=
 match o.dst,o.op with
 | some d,.extract (.tmp t) i=>match g t with
  | .tup ws cs=>match ws[i]? with
   | some (ag,n)=>if d<N/\t<N/\d≠t/\CT.mens [t] cs=false/\woff ws i+n<=cs.length/\gY ((cs.drop (woff ws i)).take n)=true then
     some ⟨[(d,.val ag ((cs.drop (woff ws i)).take n)),(t,.tup ws (iQ (woff ws i) n cs))],fun T=>T.kill [d,t] [t],[t],.det (uu t (woff ws i) n)⟩ else none
   | none=>none
  | _=>none
 | _,_=>none
theorem asr {P:aS} {N:Nat} {g:Nat->TT} {o:bQ} {S:Stp} (h:ahe N g o=some S):d9 P N o g S:=by
 unfold ahe at h;split at h;case h_2=>cases h
 case h_1 d t i hd ho=>
 split at h;case h_2=>cases h
 case h_1 ws cs hT=>
 split at h;case h_2=>cases h
 case h_1 ag n hw=>
 split at h;case isFalse=>cases h
 case isTrue hc=>
 obtain ⟨hdN,lT,yQ,hm,hn,jo⟩:=hc;cases h;intro ac κ0 κ w0 w tg sv s a v next Q hN hR hL hv bT;simp only [Eff.rel,uu,dh] at hv;obtain ⟨as,hg,rfl⟩:=hv;obtain ⟨e1,e2⟩:=hL.at hT (by simp);have h1:=hR.tr t;rw [e1] at h1;simp only [TR] at h1;obtain ⟨as',xs,vs,g1,g2,g3,g4,g5⟩:=h1;obtain ⟨is,hs⟩:=cK hg;rw [e2,hs] at g1;cases g1;obtain ⟨x,hx,hcx,_⟩:=Oc g3 hw;have jq:=ar6 hR hdN lT yQ e1 hm hn (g:=ag) (x:=x) (as:=as) (by rw [e2,hs]) jo (fun xs' vs' k1 k2=>by
  rw [g2] at k1;cases k1
  rw [g3] at k2;cases k2
  exact hcx)
 refine KE (w':=w) (x:=x) ?_ (bT x w _ _ _ (by rw [hd,qf (a:=a) (by rw [hN];exact hdN)];exact jq) (fun u => ?_) (fun u => ?_))
 ·unfold execOp;rw [ho];simp only;refine dJ ?_;have kE:a.eval (.tmp t)=gm a t:=rfl;rw [kE,g2];unfold Instr.extract;simp only;have Cj:xs[i]?=some x:=by simpa using hx
  rw [Cj];rfl
 ·simp only [aF,upd]
 ·simp [aF,upd]
end Go.Fw
namespace Go.Fw
theorem Wu {κ:aP} {w:aB} {e:aa CT} {p:Pl} {get:Nat->aj}:∀{l j:Nat} {xs:aa (aa A)},dC κ w e p j get xs->dC κ w e p (j+l*e.length) get (xs.drop l)
 | 0,j,xs,h=>by simpa using h
 | l+1,j,[],h=>by simp [dC]
 | l+1,j,x::xs,h=>by
  simp only [dC] at h;have:=Wu (l:=l) h.2;rw [show j+e.length+l*e.length=j+(l+1)*e.length from by rw [eu];omega] at this;simpa using this
theorem KL {κ:aP} {w:aB} {e:aa CT} {p:Pl} {get:Nat->aj}:∀{l j:Nat} {xs:aa (aa A)},dC κ w e p j get xs->dC κ w e p j get (xs.take l)
 | 0,j,xs,h=>by simp [dC]
 | l+1,j,[],h=>by simp [dC]
 | l+1,j,x::xs,h=>by
  simp only [dC] at h;simp only [Ab,dC];exact ⟨h.1,KL h.2⟩
theorem Od {κ:aP} {w:aB} {e:aa CT} {p p':Pl} (hn:CT.nowns e=true):∀{xs:aa (aa A)} {j j':Nat} {get get':Nat->aj},(∀i,i<xs.length*e.length->get' (j'+i)=get (j+i)) ->
  dC κ w e p j get xs->dC κ w e p' j' get' xs
 | [],_,_,_,_,_,_=>by simp [dC]
 | x::xs,j,j',get,get',hg,h=>by
  simp only [dC] at h ⊢;simp only [bI,eu,AL] at hg;refine ⟨jR (P:=fun _=>True) (fun S _ b hb=>⟨hb,Same.refl w b⟩) hn (iH (fun _=>trivial) e) (fun i hi=>hg i (by omega)) h.1,Od hn (fun i hi => ?_) h.2⟩;have:=hg (e.length+i) (by omega);rw [show j'+e.length+i=j'+(e.length+i) from by omega,show j+e.length+i=j+(e.length+i) from by omega];exact this
theorem ast {κ:aP} {w:aB} {S:aa Nat} {e:aa CT} {p:Pl} {ao:ah Addr} {n cap l h:Nat} {xs:aa (aa A)} (aZ:CT.nowns e=true) (hr:RC κ w (.sl (.ro S) e) p (.slice ao n cap) (.s xs)) (h1:l<=h) (h2:h<=xs.length) :
  n=xs.length/\h<=cap/\RC κ w (.sl (.ro S) e) p (.slice (if cap=l then ao else ao.map (·.add (l*e.length))) (h-l:Nat) (cap-l)) (.s ((xs.drop l).take (h-l))):=by
 simp only [RC] at hr;obtain ⟨ao',cap',hx,df,hc⟩:=hr;cases hx;have bP:((xs.drop l).take (h-l)).length=h-l:=by simp;omega
 refine ⟨rfl,by omega,?_⟩;simp only [RC,bP];refine ⟨_,_,rfl,by omega,?_⟩;rcases hc with rfl|⟨b,o,rfl,hb,hrd,he⟩
 ·left;simp
 ·by_cases hz:h-l=0
  ·left;rw [hz];simp
  ·right;have ko:cap≠l:=by omega
   rw [if_neg ko];refine ⟨b,o+l*e.length,by simp only [dA];rw [yZ],hb,fun q q1 q2=>hrd q (by omega) ?_,?_⟩
   ·have h3:l*e.length+(h-l)*e.length=h*e.length:=by rw [<-eu];congr 1;omega
    have h4:h*e.length<=xs.length*e.length:=jK _ h2;omega
   ·have h5:=KL (l:=h-l) (Wu (l:=l) he);rw [dG] at h5;refine Od aZ (fun i _ => ?_) h5;show cellD w b _=cellD w b _;congr 1;omega
theorem adv {ac:Nat->Nat->aj} {κ0 κ:aP} {w0 w:aB} {N:Nat} {tg:Nat->TT} {sv:Nat->AV} {tm:Nat->aj} (h:R ac κ0 w0 κ w N tg sv tm) {d:Nat} (hd:d<N) {S:aa Nat} {e:aa CT} {p:Pl} {x:aj} {xs:aa (aa A)}
  (aZ:CT.nowns e=true) (hr:RC κ w (.sl (.ro S) e) p x (.s xs)) :
  R ac κ0 w0 (aX κ (iT d) none) w N (kG tg d (.val false [.sl (.ro S) e])) (upd sv d (.v [.s xs] [])) (upd tm d x):=by
 refine nT h hd (Grows.refl w) (fun _ _ h=>by cases h) ?_;have hx:cellsOf false x=some [x]:=by
  simp only [RC] at hr;obtain ⟨ao,cap,rfl,_⟩:=hr;rfl
 have ko:=fun S b hb=>mU (κ:=κ) (w:=w) (w':=w) (d:=d) (nb:=none) (Grows.refl w) (fun _ _ h=>by cases h) S b hb
 simp only [TR,bD];refine ⟨_,[x],rfl,hx,rfl,fun k j c e' hc => ?_,?_⟩
 ·cases k<;>simp at hc
 ·simp only [aC];exact ⟨abZ (P:=fun _=>True) (fun S _ b hb=>ko S b hb) (by simpa [CT.nown] using aZ) (ade (fun _=>trivial) _) hr,trivial⟩
def AU (s:Nat->AV) (dflt:Nat):ah DX->ah Nat
 | none=>some dflt
 | some X=>match X.get s with
  | some v=>toN v
  | none=>none
def H8 (g:Nat->TT):ah iN->ah (ah DX)
 | none=>some none
 | some x=>(nW g x).map some
def AY (t:Nat) (lo hi:ah DX) (s:Nat->AV):ah (aa AV):=
 match ve t s with
 | some (xs,_)=>match AU s 0 lo,AU s xs.length hi with
  | some l,some h=>if l<=h/\h<=xs.length then some [.v [.s ((xs.drop l).take (h-l))] []] else none
  | _,_=>none
 | none=>none
def ahf (P:aS) (N:Nat) (g:Nat->TT) (o:bQ):ah Stp:=
 match o.dst,o.op with
 | some d,.slice ty (.tmp t) lo hi none=>match P.underlying ty,qg P g ty 0 (.tmp t),H8 g lo,H8 g hi with
  | some (.slice et),some X,some L,some H=>match P.info? et,X.ag,X.cs with
   | some i,false,[.sl m e]=>
    let S:=t::CT.srcss X.cs
    if d<N/\CT.lives X.cs=true/\i.size=e.length then
     some (Stp.set d (.val false [.sl (.ro S) (CT.roizes S e)]) [t] (.det (AY t L H)))
    else none
   | _,_,_=>none
  | _,_,_,_=>none
 | _,_=>none
theorem zi {ac:Nat->Nat->aj} {κ0 κ:aP} {w0 w:aB} {N:Nat} {tg g:Nat->TT} {sv s:Nat->AV} {a:Act} (hR:R ac κ0 w0 κ w N tg sv (gm a)) (hL:Le g s tg sv) {x:ah iN} {X:ah DX} (hx:H8 g x=some X) {n l:Nat}
  (hb:AU s n X=some l):(x.map a.eval=none/\l=n)\/∃k,x.map a.eval=some (.int k (l:Int)):=by
 cases x with
 | none=>simp only [H8,aO] at hx;subst hx;simp only [AU,aO] at hb;exact .inl ⟨rfl,hb.symm⟩
 | some x=>
  simp only [H8,dh] at hx;obtain ⟨Y,hY,rfl⟩:=hx;simp only [AU] at hb;split at hb
  ·rename_i v hv;obtain ⟨k,m,rfl,h0,rfl⟩:=Wn hb;obtain ⟨e1,_⟩:=u_ hR hL hY hv;exact .inr ⟨k,by simp [e1,jL h0]⟩
  ·cases hb
theorem asu {P:aS} {N:Nat} {g:Nat->TT} {o:bQ} {S:Stp} (h:ahf P N g o=some S):d9 P N o g S:=by
 unfold ahf at h;split at h;case h_2=>cases h
 case h_1 d ty t lo hi hd ho=>
 split at h;case h_2=>cases h
 case h_1 et X L H hty hX Hw hHi=>
 split at h;case h_2=>cases h
 case h_1 i m e jB NK pM=>
 simp only at h;split at h;case isFalse=>cases h
 case isTrue hc=>
 obtain ⟨hdN,lV,dH⟩:=hc;cases h;intro ac κ0 κ w0 w tg sv s a v next Q hN hR hL hv bT;simp only [Stp.set,Eff.rel,AY] at hv;split at hv;case h_2=>cases hv
 case h_1 xs is Bz=>
 split at hv;case h_2=>cases hv
 case h_1 l h hl hh=>
 split at hv;case isFalse=>cases hv
 case isTrue hb=>
 cases hv;have gU:=vZ Bz;have hXt:X.t=t/\X.get=iK t:=by
  simp only [qg] at hX;split at hX
  ·cases hX;exact ⟨rfl,rfl⟩
  ·split at hX
   ·cases hX;exact ⟨rfl,rfl⟩
   ·cases hX
  ·cases hX
 obtain ⟨vs,k1,k2,k3,_⟩:=rX hR hL hX (as:=[.s xs]) (by rw [hXt.2];unfold iK;rw [gU]);rw [NK] at k1;have mJ:=kg k1;subst mJ;rw [hXt.1] at k3;have k4:=RX (S:=t::CT.srcss X.cs) (p':=(d,[])) (j':=0) (get':=fun k=>[a.eval (.tmp t)].getD k undef) lV (by simp) (kQ fun r hr=>by simp [hr]) (fun _ _=>rfl) k3;rw [pM] at k4 lV;simp only [CT.roizes,CT.roize,aC] at k4;obtain ⟨k5,_⟩:=k4;have k5':RC κ w (.sl (.ro (t::CT.srcss X.cs)) (CT.roizes (t::CT.srcss X.cs) e)) (Pl.at (d,[]) 0) (a.eval (.tmp t)) (.s xs):=by
  rw [pM];simpa using k5
 obtain ⟨ao,cap,kE⟩:=Jp (by simp) k5';rw [kE] at k5';obtain ⟨_,hhc,gT⟩:=ast (oL _ e) k5' hb.1 hb.2;rw [dx] at gT;refine jc hd hN hdN (w':=w) ?_ (adv hR hdN (oL _ e) gT) bT;unfold execOp;rw [ho];simp only;refine dJ ?_;rw [kE];have eQ:=NV (P:=P) (t:=ty) (e:=et) (i:=i) (ao:=ao) (len:=xs.length) (cap:=cap) (lo:=lo.map a.eval) (hi:=hi.map a.eval) (l:=l) (h:=h) (w:=w) hty jB (zi hR hL Hw hl) (zi hR hL hHi hh) hb.1 hhc;rw [dH] at eQ;simpa using eQ
def ab7 (P:aS) (N:Nat) (g:Nat->TT) (fq:Bool) (o:bQ):ah Stp:=
 match fq with
 | false=>none
 | true=>match o.dst,o.op with
  | some d,.slice ty (.tmp t) lo hi none=>match P.underlying ty,qg P g ty 0 (.tmp t),H8 g lo,H8 g hi with
   | some (.slice et),some X,some L,some H=>match P.info? et,X.ag,X.cs with
    | some i,false,[.sl (.ro S) e]=>
     if d<N/\CT.nowns e=true/\i.size=e.length then
      some (Stp.set d (.val false [.sl (.ro S) e]) [t] (.det (AY t L H)))
     else none
    | _,_,_=>none
   | _,_,_,_=>none
  | _,_=>none
theorem ape {P:aS} {N:Nat} {g:Nat->TT} {fq:Bool} {o:bQ} {S:Stp} (h:ab7 P N g fq o=some S):d9 P N o g S:=by
 unfold ab7 at h;split at h;case h_1=>cases h
 case h_2=>
 split at h;case h_2=>cases h
 case h_1 d ty t lo hi hd ho=>
 split at h;case h_2=>cases h
 case h_1 et X L H hty hX Hw hHi=>
 split at h;case h_2=>cases h
 case h_1 i S0 e jB NK pM=>
 split at h;case isFalse=>cases h
 case isTrue hc=>
 obtain ⟨hdN,aZ,dH⟩:=hc;cases h;intro ac κ0 κ w0 w tg sv s a v next Q hN hR hL hv bT;simp only [Stp.set,Eff.rel,AY] at hv;split at hv;case h_2=>cases hv
 case h_1 xs is Bz=>
 split at hv;case h_2=>cases hv
 case h_1 l h hl hh=>
 split at hv;case isFalse=>cases hv
 case isTrue hb=>
 cases hv;have gU:=vZ Bz;have hXt:X.t=t/\X.get=iK t:=by
  simp only [qg] at hX;split at hX
  ·cases hX;exact ⟨rfl,rfl⟩
  ·split at hX
   ·cases hX;exact ⟨rfl,rfl⟩
   ·cases hX
  ·cases hX
 obtain ⟨vs,k1,k2,k3,_⟩:=rX hR hL hX (as:=[.s xs]) (by rw [hXt.2];unfold iK;rw [gU]);rw [NK] at k1;have mJ:=kg k1;subst mJ;rw [hXt.1] at k3;have hn:CT.nowns X.cs=true:=by rw [pM];simpa [CT.nowns,CT.nown] using aZ
 have k4:=jR (P:=fun _=>True) (κ':=κ) (w':=w) (p':=(d,[])) (j':=0) (get':=fun k=>[a.eval (.tmp t)].getD k undef) (fun S _ b hb=>⟨hb,Same.refl w b⟩) hn (iH (fun _=>trivial) X.cs) (fun _ _=>rfl) k3;rw [pM] at k4;simp only [aC] at k4;obtain ⟨k5,_⟩:=k4;have k5':RC κ w (.sl (.ro S0) e) (Pl.at (d,[]) 0) (a.eval (.tmp t)) (.s xs):=k5;obtain ⟨ao,cap,kE⟩:=Jp (by simp) k5';rw [kE] at k5';obtain ⟨_,hhc,gT⟩:=ast aZ k5' hb.1 hb.2;refine jc hd hN hdN (w':=w) ?_ (adv hR hdN aZ gT) bT;unfold execOp;rw [ho];simp only;refine dJ ?_;rw [kE];have eQ:=NV (P:=P) (t:=ty) (e:=et) (i:=i) (ao:=ao) (len:=xs.length) (cap:=cap) (lo:=lo.map a.eval) (hi:=hi.map a.eval) (l:=l) (h:=h) (w:=w) hty jB (zi hR hL Hw hl) (zi hR hL hHi hh) hb.1 hhc;rw [dH] at eQ;simpa using eQ
end Go.Fw
namespace Go.Fw
def mvB (t d:Nat) (p:Pl):ah Pl:=if p.1=t then some (d,p.2) else if p.1=d then none else some p
theorem azs {ac:Nat->Nat->aj} {κ0 κ:aP} {w0 w:aB} {N:Nat} {tg:Nat->TT} {sv:Nat->AV} {tm:Nat->aj} (h:R ac κ0 w0 κ w N tg sv tm) {d t:Nat} (hd:d<N) (fE:t≠d) {cs:aa CT} (ht:tg t = .box cs) (hm:CT.mens [t] cs=false)
  {as:aa A} (hs:sv t = .v as []) :
  R ac κ0 w0 (aX κ (mvB t d) none) w N (upd (fun u=>if u∈[t] then .dead else (tg u).kill [d,t] [t]) d (.box cs)) (upd sv d (.v as [])) (upd tm d (tm t)):=by
 have lT:t<N:=by
  apply sW;intro df;have:=h.out t df;rw [ht] at this;cases this
 have hM:∀r q p,mvB t d (r,q)=some p->r∉[t]->p=(r,q):=by
  intro r q p hp hr;unfold mvB at hp;simp only [cB] at hr;rw [if_neg hr] at hp;split at hp
  ·cases hp
  ·cases hp;rfl
 refine abW (mods:=[d,t]) (M:=[t]) h (by have:=h.nle;simp;omega) (Grows.refl w) (fun r q hr => ?_) hM (fun _ _ h=>by cases h) (fun r hr => ?_) (fun r hr => ?_) (fun r hr => ?_) (fun u hu => ?_) (fun u hu => ?_)
 ·simp at hr;simp [mvB,hr]
 ·simp at hr;simp [upd,hr]
 ·simp at hr;simp [upd,hr]
 ·simp at hr;simp [upd,hr]
 ·by_cases FK:u=d
  ·subst FK;have h1:=h.tr t;rw [ht] at h1;simp only [TR,bD] at h1 ⊢;obtain ⟨as',b,g1,g2,g3,g4,g5,g6,g7⟩:=h1;rw [hs] at g1;cases g1;have qC:∀b q,κ b=some (t,q)->aX κ (mvB t u) none b=some (u,q):=fun b q hb=>by simp [aX,hb,mvB]
   refine ⟨as,b,rfl,g2,g3,qC b [] g4,g5,g6,?_⟩;have hs:CT.allSs (fun S=>∀m,m∈[t]->m∉S) cs:=eU (fun S hS=>hS) hm;have:=fZ (f:=id) (κ':=aX κ (mvB t u) none) (w':=w) (p':=(u,[])) (get':=cellD w b) (fun S hS b hb=>nU (Grows.refl w) hM (fun _ _ h=>by cases h) hS b hb) hs (fun i _ b q hb=>⟨by simpa using qC b _ hb,Same.refl w b⟩) (fun _ _=>rfl) g7;rwa [iR] at this
  ·have:u=t:=by simpa [FK] using hu
   subst this;simp [upd,FK,TR]
 ·have h1:u≠d:=by omega
  have h2:u≠t:=by omega
  simp [upd,h1,h2,h.out u hu,TT.kill]
def ahh (N:Nat) (g:Nat->TT) (fq:Bool) (o:bQ):ah Stp:=
 if fq then match o.dst,o.op with
  | some d,.assign (.tmp t)=>match g t with
   | .box cs=>if d<N/\t≠d/\CT.mens [t] cs=false then some (Stp.mv d [t] (.box cs) [t] (.det (gF t))) else none
   | _=>none
  | _,_=>none
 else none
theorem asv {P:aS} {N:Nat} {g:Nat->TT} {fq:Bool} {o:bQ} {S:Stp} (h:ahh N g fq o=some S):d9 P N o g S:=by
 unfold ahh at h;split at h;case isFalse=>cases h
 split at h;case h_2=>cases h
 case h_1 d t hd ho=>
 split at h;case h_2=>cases h
 case h_1 cs hT=>
 split at h;case isFalse=>cases h
 case isTrue hc=>
 cases h;intro ac κ0 κ w0 w tg sv s a v next Q hN hR hL hv bT;simp only [Stp.mv,Eff.rel,gF,dh] at hv;obtain ⟨as,hg,rfl⟩:=hv;obtain ⟨e1,e2⟩:=hL.at hT (by simp);obtain ⟨is,hs⟩:=cK hg;have h1:=hR.tr t;rw [e1] at h1;simp only [TR] at h1;obtain ⟨as',b,g1,_⟩:=h1;rw [e2,hs] at g1;cases g1;refine wV hd hN hc.1 (w':=w) (x:=gm a t) ?_ (azs hR hc.1 hc.2.1 e1 hc.2.2 (by rw [e2,hs])) bT;unfold execOp;rw [ho];rfl
inductive EK where
 | b
 | i
 | s
def nC:aa EK->aa aj->aa aj->ah Bool
 | [],[],[]=>some true
 | .b::ks,.bool a::xs,.bool b::ys=>(nC ks xs ys).map fun r=>(a == b)&&r
 | .i::ks,.int k a::xs,.int k' b::ys=>if k=k' then (nC ks xs ys).map fun r=>(a == b)&&r else none
 | .s::ks,.string a::xs,.string b::ys=>(nC ks xs ys).map fun r=>(a.toList == b.toList)&&r
 | _,_,_=>none
theorem F6:∀{k1 k2:aa EK} {xs ys:aa aj} {r:Bool},nC (k1++k2) xs ys=some r->∃r1 r2,nC k1 (xs.take k1.length) (ys.take k1.length)=some r1/\nC k2 (xs.drop k1.length) (ys.drop k1.length)=some r2/\r=(r1&&r2)
 | [],k2,xs,ys,r,h=>⟨true,r,by simp [nC],by simpa using h,by simp⟩
 | k::k1,k2,xs,ys,r,h=>by
  simp only [ny] at h;unfold nC at h;split at h
  ·rename_i h1;cases h1
  ·rename_i ks a xs' b ys' h1;cases h1;simp only [dh] at h;obtain ⟨r',h2,rfl⟩:=h;obtain ⟨r1,r2,g1,g2,rfl⟩:=F6 h2;refine ⟨_,r2,?_,by simpa using g2,(Bool.and_assoc _ _ _).symm⟩;simp only [bI,Ab,nC,g1,dA]
  ·rename_i ks k0 a xs' k0' b ys' h1;cases h1;split at h;case isFalse=>cases h
   case isTrue hk=>
   simp only [dh] at h;obtain ⟨r',h2,rfl⟩:=h;obtain ⟨r1,r2,g1,g2,rfl⟩:=F6 h2;refine ⟨_,r2,?_,by simpa using g2,(Bool.and_assoc _ _ _).symm⟩;simp only [bI,Ab,nC,hk,g1,dA,if_true]
  ·rename_i ks a xs' b ys' h1;cases h1;simp only [dh] at h;obtain ⟨r',h2,rfl⟩:=h;obtain ⟨r1,r2,g1,g2,rfl⟩:=F6 h2;refine ⟨_,r2,?_,by simpa using g2,(Bool.and_assoc _ _ _).symm⟩;simp only [bI,Ab,nC,g1,dA]
  ·cases h
theorem amz:∀{ks:aa EK} {xs ys:aa aj} {r:Bool},nC ks xs ys=some r->xs.length=ks.length/\ys.length=ks.length:=by
 intro ks;induction ks with
 | nil=>intro xs ys r h;cases xs<;>cases ys<;>simp [nC] at h;simp
 | cons k ks ih=>
  intro xs ys r h;unfold nC at h;split at h
  ·rename_i h1;cases h1
  ·rename_i h1;cases h1;simp only [dh] at h;obtain ⟨r',h2,_⟩:=h;have:=ih h2;simp [this.1,this.2]
  ·rename_i h1;cases h1;split at h;case isFalse=>cases h
   simp only [dh] at h;obtain ⟨r',h2,_⟩:=h;have:=ih h2;simp [this.1,this.2]
  ·rename_i h1;cases h1;simp only [dh] at h;obtain ⟨r',h2,_⟩:=h;have:=ih h2;simp [this.1,this.2]
  ·cases h
def eqG (P:aS) (K:TypeId->ah (aa EK)):aa Field->Nat->ah (aa EK)
 | [],_=>some []
 | f::fs,off=>match P.info? f.type with
  | some i=>match K f.type,eqG P K fs (off+i.size) with
   | some k1, some k2 => if f.name ≠ "_" ∧ f.offset = off ∧ i.size = k1.length ∧ 0 < k1.length then some (k1 ++ k2) else none
   | _,_=>none
  | none=>none
def Oe (P:aS):Nat->TypeId->ah (aa EK)
 | 0,_=>none
 | d+1,t=>match P.underlying t with
  | some .bool=>some [.b]
  | some (.int _)=>some [.i]
  | some .string=>some [.s]
  | some (.struct fs)=>if P.stoodInHeld t=false then eqG P (Oe P d) fs.toList 0 else none
  | _=>none
abbrev eqF (P:Program) (d:Nat):List Field->Nat->Option (List EK):=eqG P (Oe P d)
def valOf (P:aS) (t:TypeId) (xs:aa aj):aj:=
 match P.underlying t with
 | some (.struct _)=>.agg xs.toArray
 | _=>xs.getD 0 undef
section
variable {P:aS} {w:aB}
theorem ahj {d:Nat} {t:TypeId} {i:TypeInfo} {ks:aa EK} (hi:P.info? t=some i) (hk:Oe P d t=some ks) (dH:i.size=ks.length) {X:Array aj} {off:Nat} (yB:off+ks.length<=X.size) :
  (part t X off).run P w = .ok (valOf P t ((X.toList.drop off).take ks.length)) w:=by
 cases d with
 | zero=>simp [Oe] at hk
 | succ d=>
  simp only [Oe] at hk;unfold part valOf;have one:∀{g:Bool},wQ P t=some g->g=false->ks.length=1->(∀fs,P.underlying t≠some (.struct fs))->((do if <-isAgg t then pure (.agg (X.extract off (off+(<-sizeOf t)))) else match X[off]? with
    | some v=>pure v
    | none => stuck "part: no such cell") : Sem aj).run P w = .ok (match P.underlying t with
    | some (.struct _)=>.agg ((X.toList.drop off).take ks.length).toArray
    | _=>((X.toList.drop off).take ks.length).getD 0 undef) w:=by
   intro g hg hgf hl hns;rw [aJ (F4 hg w)];subst hgf;simp only [iP,if_false];have bU:off<X.size:=by omega
   have h1:X[off]?=some X[off]:=by simp [bU]
   rw [h1];have h2:((X.toList.drop off).take ks.length).getD 0 undef=X[off]:=by
    rw [dw,qV (by omega),pQ];simp [bU]
   rw [h2];rfl
  split at hk
  ·rename_i hu;cases hk;exact one (g:=false) (by simp [wQ,hu]) rfl rfl (by simp [hu])
  ·rename_i k hu;cases hk;exact one (g:=false) (by simp [wQ,hu]) rfl rfl (by simp [hu])
  ·rename_i hu;cases hk;exact one (g:=false) (by simp [wQ,hu]) rfl rfl (by simp [hu])
  ·rename_i fs hu;rw [aJ (F4 (g:=true) (by simp [wQ,hu]) w)];simp only [if_true];rw [aJ (run_sizeOf hi w),hu];simp only [dH];show Result.ok (Value.agg (X.extract off (off+ks.length))) w=_;congr 2;apply Array.ext';simp [List.drop_take,Nat.add_sub_cancel_left]
  ·cases hk
theorem azt:∀{d:Nat},(∀{t:TypeId} {ks:aa EK} {xs ys:aa aj} {r:Bool} (m:Nat),Oe P d t=some ks->nC ks xs ys=some r->(Op.equalIn (m+d) t (valOf P t xs) (valOf P t ys)).run P w = .ok r w) /\
  (∀{fs:aa Field} {off:Nat} {ks:aa EK} {X Y:Array aj} {r:Bool} (m:Nat),eqF P d fs off=some ks->nC ks (X.toList.drop off) (Y.toList.drop off)=some r->(Op.eqFields (m+d) X Y fs).run P w = .ok r w):=by
 intro d;induction d with
 | zero=>
  refine ⟨fun m hk=>by simp [Oe] at hk,fun {fs} => ?_⟩;induction fs with
  | nil=>
   intro off ks X Y r m hf hv;simp only [eqG,aO] at hf;subst hf;cases hx:X.toList.drop off<;>cases hy:Y.toList.drop off<;>rw [hx,hy] at hv<;>simp [nC] at hv;subst hv;rfl
  | cons f fs ih=>
   intro off ks X Y r m hf hv;simp only [eqG,Oe] at hf;split at hf
   ·cases hf
   ·cases hf
 | succ d ih=>
  have hK:∀{t:TypeId} {ks:aa EK} {xs ys:aa aj} {r:Bool} (m:Nat),Oe P (d+1) t=some ks->nC ks xs ys=some r->(Op.equalIn (m+(d+1)) t (valOf P t xs) (valOf P t ys)).run P w = .ok r w:=by
   intro t ks xs ys r m hk hv;simp only [Oe] at hk;split at hk
   ·rename_i hu;cases hk;unfold nC at hv;split at hv
    ·rename_i h1;cases h1
    ·rename_i h1;cases h1;simp only [dh] at hv;obtain ⟨r',h2,rfl⟩:=hv;rename_i a xs b ys;cases xs<;>cases ys<;>simp [nC] at h2;subst h2;simp only [valOf,hu,uM,wL];exact run_equalIn_bool w _ t _ _ hu
    ·rename_i h1;cases h1
    ·rename_i h1;cases h1
    ·cases hv
   ·rename_i k hu;cases hk;unfold nC at hv;split at hv
    ·rename_i h1;cases h1
    ·rename_i h1;cases h1
    ·rename_i h1;cases h1;split at hv;case isFalse=>cases hv
     case isTrue hkk=>
     subst hkk;simp only [dh] at hv;obtain ⟨r',h2,rfl⟩:=hv;rename_i k0 a xs b ys;cases xs<;>cases ys<;>simp [nC] at h2;subst h2;simp only [valOf,hu,uM,wL];exact run_equalIn_int w _ t _ _ _ _ hu
    ·rename_i h1;cases h1
    ·cases hv
   ·rename_i hu;cases hk;unfold nC at hv;split at hv
    ·rename_i h1;cases h1
    ·rename_i h1;cases h1
    ·rename_i h1;cases h1
    ·rename_i h1;cases h1;simp only [dh] at hv;obtain ⟨r',h2,rfl⟩:=hv;rename_i a xs b ys;cases xs<;>cases ys<;>simp [nC] at h2;subst h2;simp only [valOf,hu,uM,wL];exact run_equalIn_string w _ t _ _ hu
    ·cases hv
   ·rename_i fs hu;split at hk;case isFalse=>cases hk
    case isTrue gU=>
    have hfo:P.fieldsOf t=fs:=by unfold Program.fieldsOf;rw [hu]
    have:=run_equalIn_struct (P:=P) w (m+d) t xs.toArray ys.toArray (by rw [hfo];exact hu) gU;simp only [valOf,hu];rw [show m+(d+1)=m+d+1 from rfl,this,hfo];exact ih.2 m hk (by simpa using hv)
   ·cases hk
  refine ⟨hK,fun {fs} => ?_⟩;induction fs with
  | nil=>
   intro off ks X Y r m hf hv;simp only [eqG,aO] at hf;subst hf;cases hx:X.toList.drop off<;>cases hy:Y.toList.drop off<;>rw [hx,hy] at hv<;>simp [nC] at hv;subst hv;rfl
  | cons f fs ihf=>
   intro off ks X Y r m hf hv;simp only [eqG] at hf;split at hf;case h_2=>cases hf
   case h_1 i hi=>
   split at hf;case h_2=>cases hf
   case h_1 k1 k2 hk1 hk2=>
   split at hf;case isFalse=>cases hf
   case isTrue hc=>
   cases hf;obtain ⟨hnm,aF_,dH,yw⟩:=hc;obtain ⟨r1,r2,g1,g2,rfl⟩:=F6 hv;have hlx:=(amz hv).1;have hly:=(amz hv).2;simp only [sZ,dR,RL] at hlx hly;have hfx:off+k1.length<=X.size:=by omega
   have hfy:off+k1.length<=Y.size:=by omega
   have p1:=ahj (P:=P) (w:=w) (X:=X) (off:=off) hi hk1 dH hfx;have p2:=ahj (P:=P) (w:=w) (X:=Y) (off:=off) hi hk1 dH hfy;have p3:=hK m hk1 g1;simp only [Op.eqFields,hnm,ne_eq,not_false_eq_true,if_true];rw [aF_,aJ p1,aJ p2,aJ p3];cases r1 with
   | false=>rfl
   | true=>
    simp only [bC,iP,if_false,dZ];refine ihf m hk2 ?_;rw [dH];simpa [List.drop_drop] using g2
end
def Jt:aa A->ah (aa aj)
 | []=>some []
 | .v x::as=>(Jt as).map (x :: ·)
 | _=>none
theorem ab8:∀vs:aa aj,Jt (vs.map .v)=some vs
 | []=>rfl
 | v::vs=>by simp [Jt,ab8 vs]
def Yu (ks:aa EK) (X Y:(Nat->AV)->ah (aa A)) (ne:Bool) (s:Nat->AV):ah (aa AV):=
 match X s,Y s with
 | some as,some bs=>match Jt as,Jt bs with
  | some xs,some ys=>match nC ks xs ys with
   | some r=>some [.v [.v (.bool (if ne then !r else r))] []]
   | none=>none
  | _,_=>none
 | _,_=>none
def ahk (P:aS) (N:Nat) (g:Nat->TT) (o:bQ):ah Stp:=
 match o.dst,o.op with
 | some d,.binOp op t x y _=>match P.underlying t,Oe P 12 t,qg P g t 0 x,qg P g t 1 y with
  | some (.struct _),some ks,some X,some Y=>
   if d<N/\(op = .eql\/op = .neq)/\X.ag=true/\Y.ag=true/\qL X.cs=true/\qL Y.cs=true/\P.eqGuardType P.depth t=false then
    some (Stp.set d (.val false [.d]) (X.rd++Y.rd) (.det (Yu ks X.get Y.get (decide (op = .neq)))))
   else none
  | _,_,_,_=>none
 | _,_=>none
theorem amA {κ:aP} {w:aB} {p:Pl} {cs:aa CT} {vs:aa aj} {as:aa A} (hl:vs.length=cs.length) (hd:qL cs=true) (h:aC κ w cs p 0 (fun k=>vs.getD k undef) as):as=vs.map .v:=by
 obtain ⟨h1,_⟩:=Wo hd h;simp only [dG] at h1;have mJ:(List.range cs.length).map (fun k=>vs.getD k undef)=vs:=by
  apply X5
  ·simp [hl]
  ·intro k hk om;simp [dw,aT om]
 rw [mJ] at h1;exact h1
theorem asw {x:aj} {vs:aa aj} (h:cellsOf true x=some vs):x = .agg vs.toArray:=by
 cases x<;>simp [cellsOf] at h;subst h;simp
theorem asy {P:aS} {N:Nat} {g:Nat->TT} {o:bQ} {S:Stp} (h:ahk P N g o=some S):d9 P N o g S:=by
 unfold ahk at h;split at h;case h_2=>cases h
 case h_1 d op t x y u hd ho=>
 split at h;case h_2=>cases h
 case h_1 fs ks X Y hu hk hX hY=>
 split at h;case isFalse=>cases h
 case isTrue hc=>
 cases h;obtain ⟨hdN,lU,hxa,hya,hxd,hyd,NH⟩:=hc;intro ac κ0 κ w0 w tg sv s a v next Q hN hR hL hv bT;simp only [Stp.set,Eff.rel,Yu] at hv;split at hv;case h_2=>cases hv
 case h_1 as bs jH wF=>
 split at hv;case h_2=>cases hv
 case h_1 xs ys Bz hys=>
 split at hv;case h_2=>cases hv
 case h_1 r hr=>
 cases hv;obtain ⟨vs,a1,a2,a3,_⟩:=rX hR hL hX jH;obtain ⟨ws,b1,b2,b3,_⟩:=rX hR hL hY wF;have e1:=amA a2 hxd a3;have e2:=amA b2 hyd b3;rw [e1,ab8] at Bz;rw [e2,ab8] at hys;cases Bz;cases hys;rw [hxa] at a1;rw [hya] at b1;have va:=asw a1;have vb:=asw b1;have rJ:=(azt (P:=P) (w:=w) (d:=12)).1 (10000-12) hk hr;simp only [valOf,hu] at rJ;refine jc hd hN hdN (w':=w) (x:=.bool (if decide (op = .neq) then !r else r)) ?_ (Ya hR hdN rfl (Grows.refl w)) bT;unfold execOp;rw [ho];simp only;refine dJ ?_;rw [va,vb,aJ (run_eqGuard_agg (P:=P) w op t x y _ _ NH)];rcases lU with rfl|rfl
 ·rw [run_eql_struct,rJ];rfl
 ·rw [run_neq_struct,rJ];rfl
def bytesOf:aa (aa A)->ah (aa Int)
 | []=>some []
 | [.v (.int .u8 n)]::xs=>(bytesOf xs).map (n :: ·)
 | _=>none
def ahl (ns:aa Int):ByteArray:=ns.foldl (fun r n=>r.push (UInt8.ofNat n.toNat)) ByteArray.empty
def ahm (t:Nat) (s:Nat->AV):ah (aa AV):=
 match ve t s with
 | some (xs,_)=>match bytesOf xs with
  | some ns=>some [.v [.v (.string (ahl ns))] []]
  | none=>none
 | none=>none
def ab9 (P:aS) (N:Nat) (g:Nat->TT) (fq:Bool) (o:bQ):ah Stp:=
 if fq then match o.dst,o.op with
  | some d,.slice ty (.tmp t) lo hi none=>match P.underlying ty,g t,H8 g lo,H8 g hi with
   | some (.slice et),.val false [.sl (.own pin) e],some L,some H=>match P.info? et with
    | some i=>if d<N/\t<N/\i.size=e.length/\CT.mens [t] [.sl (.own pin) e]=false/\(lo=none\/CT.nowns e=true) then
      some (Stp.mv d [t] (.val false [.sl (.own none) e]) [t] (.det (AY t L H))) else none
    | none=>none
   | _,_,_,_=>none
  | _,_=>none
 else none
theorem apf {P:aS} {N:Nat} {g:Nat->TT} {fq:Bool} {o:bQ} {S:Stp} (h:ab9 P N g fq o=some S):d9 P N o g S:=by
 unfold ab9 at h;split at h;case isFalse=>cases h
 split at h;case h_2=>cases h
 case h_1 d ty t lo hi hd ho=>
 split at h;case h_2=>cases h
 case h_1 et pin e L H hty hT Hw hHi=>
 split at h;case h_2=>cases h
 case h_1 i jB=>
 split at h;case isFalse=>cases h
 case isTrue hc=>
 obtain ⟨hdN,lT,dH,hm,gQ⟩:=hc;cases h;intro ac κ0 κ w0 w tg sv s a v next Q hN hR hL hv bT;simp only [Stp.mv,Eff.rel,AY] at hv;split at hv;case h_2=>cases hv
 case h_1 xs is Bz=>
 split at hv;case h_2=>cases hv
 case h_1 l h hl hh=>
 split at hv;case isFalse=>cases hv
 case isTrue hb=>
 cases hv;have gU:=vZ Bz;obtain ⟨e1,e2⟩:=hL.at hT (by simp);have h1:=hR.tr t;rw [e1] at h1;simp only [TR] at h1;obtain ⟨as,vs,g1,g2,g3,_,g5⟩:=h1;rw [e2,gU] at g1;cases g1;have:=kg g2;subst this;have g5':=g5;simp only [aC] at g5;obtain ⟨ug,_⟩:=g5;simp only [RC] at ug;obtain ⟨ao,cap,hx,df,tX⟩:=ug;simp only [uM] at hx;have bP:((xs.drop l).take (h-l)).length=h-l:=by rw [iD,sZ];omega
 have kE:a.eval (.tmp t) = .slice ao xs.length cap:=hx;have eQ:=NV (P:=P) (t:=ty) (e:=et) (i:=i) (ao:=ao) (len:=xs.length) (cap:=cap) (lo:=lo.map a.eval) (hi:=hi.map a.eval) (l:=l) (h:=h) (w:=w) hty jB (zi hR hL Hw hl) (zi hR hL hHi hh) hb.1 (by omega);have aZ:t≠FB:=Nat.ne_of_lt (pO lT hR.nle);have hnf:FB∉[t]:=fun hm=>aZ (cB.1 hm).symm
 refine wV hd hN hdN (w':=w) (x:=.slice (if cap=l then ao else ao.map (·.add (l*i.size))) (h-l:Nat) (cap-l)) ?_ (Dk (f:=fun _ k=>some [k]) (nb:=none) hR hdN hnf (Grows.refl w) (fun _ _ h=>by cases h) rfl ?_) bT
 ·unfold execOp;rw [ho];simp only;refine dJ ?_;rw [kE];simpa using eQ
 ·simp only [TR,bD];refine ⟨_,[_],rfl,rfl,rfl,gu rfl,?_⟩;simp only [aC,RC,uM,bP];refine ⟨⟨_,_,rfl,by omega,?_⟩,trivial⟩;rcases tX with ⟨rfl,rfl⟩|⟨b,off,rfl,wF,hκ,hw,he⟩
  ·left;have:l=0:=by omega
   subst this;simp
  ·right;have hκ':aX κ (tY [t] d fun _ k=>some [k]) none b=some (d,[0]):=by
    simp only [Pl.at,gX] at hκ;simp [aX,hκ,tY]
   have bu:∀S,(∀m,m∈[t]->m∉S)->∀b,bn κ w S b->bn (aX κ (tY [t] d fun _ k=>some [k]) none) w S b/\Same w w b:=fun S hS b hb=>nU (Grows.refl w) aoX (fun _ _ h=>by cases h) hS b hb
   have hse:CT.allSs (fun S=>∀m,m∈[t]->m∉S) e:=by
    refine eU (fun S hS=>hS) ?_;simpa [CT.mens,CT.men] using hm
   by_cases ko:cap=l
   ·rw [if_pos ko];have hz:h-l=0:=by omega
    refine ⟨b,off,rfl,wF,by simpa [Pl.at] using hκ',fun q q1 q2 => ?_,?_⟩
    ·rw [ko] at q2;simp at q2;omega
    ·rw [hz];simp [dC]
   ·rw [if_neg ko];refine ⟨b,off+l*i.size,by simp only [dA];rw [yZ],wF,by simpa [Pl.at] using hκ',?_,?_⟩
    ·rw [dH];refine hw.sub (by omega) ?_;have:l*e.length+(cap-l)*e.length=cap*e.length:=by rw [<-eu];congr 1;omega
     omega
    ·rw [dH];by_cases hl0:l=0
     ·subst hl0;have h5:=KL (l:=h-0) he;have h6:=Ky (f:=id) (κ':=aX κ (tY [t] d fun _ k=>some [k]) none) (w':=w) (p':=Pl.at (d,[]) 0) bu hse (fun b q hb=>⟨?_,Same.refl w b⟩) h5
      ·rw [iR] at h6;simpa using h6
      ·simp only [Pl.at,gX,Ko] at hb ⊢;simp [aX,hb,tY]
     ·have eF:CT.nowns e=true:=by
       rcases gQ with hp|hp
       ·exfalso;rw [hp] at Hw;simp only [H8,aO] at Hw;subst Hw;simp only [AU,aO] at hl;exact hl0 hl.symm
       ·exact hp
      have h5:=KL (l:=h-l) (Wu (l:=l) he);rw [dG] at h5;have h6:=Od (p':=Pl.at (d,[]) 0) (j':=0) (get':=fun j=>cellD w b (off+l*e.length+j)) eF (fun q _=>by
       show cellD w b _=cellD w b _
       congr 1;omega) h5
      exact Wi bu eF hse h6
end Go.Fw
namespace Go.Fw
def BX (r:Nat) (P:aa Nat) (base n:Nat) (srcs:aa Nat) (p:Pl):ah Pl:=
 if p.1=r then (if (List.range n).any (fun k=>(P++[base+k]).isPrefixOf p.2) then none else some p)
 else if p.1∈srcs then match p.2 with
  | k::q=>some (r,P++(base+k)::q)
  | []=>none
 else some p
theorem aDz {r base n:Nat} {P:aa Nat} {srcs:aa Nat}:∀r' q p,BX r P base n srcs (r',q)=some p->r'∉r::srcs->p=(r',q):=by
 intro r' q p h hr;simp only [a_,not_or] at hr;simp only [BX,hr.1,hr.2,if_false] at h;cases h;rfl
theorem KM {r base n:Nat} {P q:aa Nat} {srcs:aa Nat} (h:∀k,k<n->¬P++[base+k] <+: q):BX r P base n srcs (r,q)=some (r,q):=by
 simp only [BX,if_true];rw [if_neg];simp only [nO,jg,not_exists,not_and];intro k hk hh;exact h k hk (List.isPrefixOf_iff_prefix.1 hh)
section
variable {ac:Nat->Nat->aj} {κ0 κ:aP} {w0 w w':aB} {N:Nat} {tg:Nat->TT} {sv:Nat->AV} {tm:Nat->aj}
theorem av2 (h:R ac κ0 w0 κ w N tg sv tm) {r:Nat} (sN:r<N) {cs e:aa CT} {sk:Sk} {is S:aa Nat} {B O off:Nat} (ht:(tg r).cts=some cs) {ra row:aa A} (hs:sv r = .v ra [])
  (hp:Jm κ w tg tm r sk is S B O) (oF:sk≠[]) (he:iC true cs sk=some e) (hl:b_ ra sk is=some row) {srcs:aa Nat} (qx:FB∉srcs) (oH:r∉srcs) {t:Nat} {cv:aa CT} {vs:aa aj} {as:aa A}
  (hv:Part κ w srcs t cv vs as) (hn:off+cv.length<=e.length) (df:CT.les cv ((e.drop off).take cv.length)=true) (hm:CT.mens (r::srcs) cs=false) (hmv:CT.mens (r::srcs) cv=false) (Hq:t∈srcs\/t=r\/True) :
  Wrb w B (O+off) (O+off+vs.length) /\
  R ac κ0 w0 (aX κ (BX r (bZ [] 0 sk is).1 ((bZ [] 0 sk is).2+off) cv.length srcs) none) (bG w B (O+off) vs) N (upd (fun u=>if u∈srcs then .dead else (tg u).kill (r::srcs) (r::srcs)) r (tg r))
   (upd sv r (.v (lH ra sk is (splice row off as)) [])) tm:=by
 have Ck:=hv.len;have fe:=h.root ht hs;obtain ⟨b0,o,g1,jh,hW,cZ⟩:=Dj (bo:=(rb (tg r) (tm r)).map fun b=>(b,0)) oF fe he hl;have ha:=hp.addr;simp only [iF] at ha;simp only [dG] at g1;rw [ha] at g1;simp only [aO,di] at g1;obtain ⟨rfl,rfl⟩:=g1;have pJ:is≠[]:=by
  rintro rfl;cases sk with
  | nil=>exact oF rfl
  | cons s sk=>cases s;simp [b_] at hl
 have aGa:(bZ [] 0 sk is).1≠[]:=by simp [ar7 (sk:=sk) (is:=is) (p:=[]) (j:=0) oF pJ]
 generalize hP:(bZ [] 0 sk is).1=P at *
 generalize hj:(bZ [] 0 sk is).2=j at *
 have fA:=kP vs w B (o+j+off);have dH:(bG w B (o+j+off) vs).heap.size=w.heap.size:=fA.1;have ku:∀b p,κ b=some p->aX κ (BX r P (j+off) cv.length srcs) none b=BX r P (j+off) cv.length srcs p:=fun b p hb=>rW (fun _ _ h=>by cases h) h.col hb
 have hWn:Wrb w B (o+j+off) (o+j+off+vs.length):=hW.sub (by omega) (by omega);refine ⟨hWn,?_⟩;have aGb:∀S,(∀m,m∈r::srcs->m∉S)->∀b,bn κ w S b->b≠B:=by
  rintro S hS b hb rfl;exact hS r (by simp) (hb.2 _ _ jh).1
 have bu:∀S,(∀m,m∈r::srcs->m∉S)->∀b,bn κ w S b->bn (aX κ (BX r P (j+off) cv.length srcs) none) (bG w B (o+j+off) vs) S b/\Same w (bG w B (o+j+off) vs) b:=
  fun S hS b hb=>by
   have h1:=nU (F:=BX r P (j+off) cv.length srcs) (nb:=none) (Grows.refl w) aDz (fun _ _ h=>by cases h) hS b hb;exact ⟨⟨by rw [dH];exact h1.1.1,h1.1.2⟩,dF (aGb S hS b hb)⟩
 have aGc:aX κ (BX r P (j+off) cv.length srcs) none B=κ B:=by
  rw [ku B _ jh,jh];refine KM fun k hk hh => ?_
  have:=hh.length_le;rw [dR,Kq] at this;omega
 -- the value,moved
 have XO:aC (aX κ (BX r P (j+off) cv.length srcs) none) (bG w B (o+j+off) vs) cv (r,P) (j+off) (fun k=>vs.getD (k-(j+off)) undef) as:=by
  by_cases hts:t∈srcs
  ·have aZ:t≠r:=by rintro rfl;exact oH hts
   have:=fZ (f:=id) (P:=fun S=>∀m,m∈r::srcs->m∉S) (κ':=aX κ (BX r P (j+off) cv.length srcs) none) (w':=bG w B (o+j+off) vs) (p':=(r,P)) (j':=j+off) (get':=fun k=>vs.getD (k-(j+off)) undef) bu
    (eU (fun S hS=>hS) hmv) (fun i hi b q hb=>⟨?_,dF ?_⟩) (fun i hi=>by simp) hv.row
   ·rwa [iR] at this
   ·rw [ku b _ hb];simp [BX,aZ,hts]
   ·rintro rfl;rw [jh] at hb;simp only [aO,di] at hb;exact aZ hb.1.symm
  ·exact jR (P:=fun S=>∀m,m∈r::srcs->m∉S) bu (hv.own.resolve_left hts) (eU (fun S hS=>hS) hmv) (fun i hi=>by simp) hv.row
 have hme:=AO hm he;have bP:=dE cZ;have aIA:=dE hv.row;have uX:aC (aX κ (BX r P (j+off) cv.length srcs) none) (bG w B (o+j+off) vs) e (r,P) j (fun k=>cellD (bG w B (o+j+off) vs) B (o+k)) (splice row off as):=by
  refine lY (by rw [lI (by omega)];exact bP) fun k c a hc ha => ?_
  rw [nV (by omega)] at ha;have hk:=(bf hc).1;by_cases bq:off<=k/\k<off+cv.length
  ·rw [if_neg (by omega),if_pos (by omega)] at ha;have hh:=gW (wX df XO) (k:=k-off) (c:=c) (a:=a) (by rw [qV (by omega),pQ,show off+(k-off)=k from by omega];exact hc) ha;have lD:=Ac (w:=w) (b:=B) (o:=o+j+off) (vs:=vs) hWn (k-off) (by omega);rw [show j+off+(k-off)=j+k from by omega] at hh;rw [show o+j+off+(k-off)=o+(j+k) from by omega] at lD;rw [lD];have e2:vs.getD (j+k-(j+off)) undef=vs[k-off]'(by omega):=by
    rw [show j+k-(j+off)=k-off from by omega];simp [dw,aT (show k-off<vs.length by omega)]
   simp only [e2] at hh;first
    | exact hh
    | (rw [dw,aT (by omega)];exact hh)
  ·have Ht:row[k]?=some a:=by
    by_cases h1:k<off
    ·rwa [if_pos h1] at ha
    ·rw [if_neg h1,if_neg (by omega)] at ha;exact ha
   have h0:=gW cZ hc Ht;have lD:cellD (bG w B (o+j+off) vs) B (o+(j+k))=cellD w B (o+(j+k)):=by
    unfold cellD;rw [iG,if_neg];rintro ⟨_,h1,h2⟩;exact bq ⟨by omega,by omega⟩
   rw [lD];refine vV (yY (fun S hS b hb=>bu S hS b hb) (u7 hme hc)) (fun b q hb=>⟨?_,dF ?_⟩) h0
   ·rw [ku b _ hb,hb];refine KM fun m NN gQ => ?_
    simp only [Pl.at] at gQ;rw [lW] at gQ;have:=nQ (p:=P) (q:=q) (x:=j+off+m) (y:=j+k) (by simpa using gQ);exact bq ⟨by omega,by omega⟩
   ·rintro rfl;rw [jh] at hb;simp [Pl.at] at hb
 have nk:∀get,(fun k=>get (0+k))=rg w (tg r) (tm r)->aC κ w cs (r,[]) 0 get ra ->
   aC (aX κ (BX r P (j+off) cv.length srcs) none) (bG w B (o+j+off) vs) cs (r,[]) 0 get (lH ra sk is (splice row off as)):=fun get z8 aCS=>by
  refine Jj (bo:=(rb (tg r) (tm r)).map fun b=>(b,0)) oF aCS he hl (by rw [z8];exact ha) (eU (fun S hS b hb=>bu S hS b hb) hm)
   (fun b q hb oD jo=>⟨?_,dF oD⟩) (fun hb=>by rw [dH];exact hb) aGc
   (fun o' y oq hy=>⟨by rw [iG,if_neg (by rintro ⟨_,h1,h2⟩;exact oq ⟨by omega,by omega⟩)];exact hy,fA.2.2.2.2.2 _ _⟩) (nS hW) (fun o' oq => ?_)
  ·rw [ku b _ hb,hb];refine KM fun k hk gQ => ?_
   rw [hP,hj] at jo;exact jo (off+k) (by omega) (by rw [<-kN];exact gQ)
  ·rw [hj] at oq;have:o'=o:=by omega
   subst this;rw [hP,hj];exact uX
 refine ul (mods:=r::srcs) (M:=r::srcs) h (by have:=h.nle;simp only [a_,not_or];exact ⟨by omega,qx⟩) bu (fun b r' q jC hb => ?_) (fun u hu => ?_) (fun u hu => ?_) (fun u _=>rfl) (fun u hu => ?_) (fun u hu => ?_) (fun b hb => ?_) ?_
 ·simp at jC;refine ⟨?_,dF ?_⟩
  ·rw [ku b _ hb,hb];simp [BX,jC]
  ·rintro rfl;rw [jh] at hb;cases hb;exact jC.1 rfl
 ·simp at hu;left;simp only [upd,hu.1,hu.2,if_false]
 ·simp at hu;simp [upd,hu]
 ·by_cases yx:u=r
  ·subst yx;rw [bD];have h1:=h.tr u;cases hT:tg u with
   | val ag cs'=>
    rw [hT] at h1 ht;simp only [TT.cts,aO] at ht;subst ht;simp only [TR,bD] at h1 ⊢;obtain ⟨as',vs',k1,k2,k3,k4,k5⟩:=h1;rw [hs] at k1;cases k1;have lF:rg w (tg u) (tm u)=fun k=>vs'.getD k undef:=by rw [hT];funext k;simp [rg,k2]
    exact ⟨_,vs',rfl,k2,k3,k4,nk _ (by rw [lF];funext k;simp) k5⟩
   | box cs'=>
    rw [hT] at h1 ht;simp only [TT.cts,aO] at ht;subst ht;simp only [TR,bD] at h1 ⊢;obtain ⟨as',b,k1,k2,k3,k4,k5,k6,k7⟩:=h1;rw [hs] at k1;cases k1;have oD:b≠B:=by
     rintro rfl;rw [k4] at jh;simp only [aO,di,true_and] at jh;exact aGa jh.symm
    have fO:=dF (w:=w) (o:=o+j+off) (vs:=vs) oD;have lF:rg w (tg u) (tm u)=cellD w b:=by rw [hT];funext k;simp [rg,k2]
    have hu':=nk (cellD w b) (by rw [lF];funext k;simp) k7;have hcd:∀i,i<cs'.length->cellD (bG w B (o+j+off) vs) b i=cellD w b i:=fun i hi=>fO.cD k5.rdb (wN _) hi
    refine ⟨_,b,rfl,k2,by rw [dH];exact k3,?_,nS k5,fun k j' c e' hk=>by rw [hcd k (bf hk).1];exact k6 k j' c e' hk,
     mO (fun i _ hi=>hcd i (by simpa using hi)) hu'⟩
    rw [ku b _ k4];refine KM fun k hk gQ => ?_
    have:=gQ.length_le;rw [dR,Kq,bS] at this;omega
   | dead=>rw [hT] at ht;simp [TT.cts] at ht
   | alias=>rw [hT] at ht;simp [TT.cts] at ht
   | ptr=>rw [hT] at ht;simp [TT.cts] at ht
   | tup=>rw [hT] at ht;simp [TT.cts] at ht
  ·simp [yx] at hu;simp [upd,yx,hu,TR]
 ·have aw8:u≠r:=by omega
  simp only [upd,aw8,if_false,h.out u hu,TT.kill];split<;>rfl
 ·rw [dH] at hb;have:=h.col b hb;simp [aX,this]
 ·exact ⟨by rw [dH];exact h.fr.size,fun b hb h0=>⟨by have:=(h.fr.kept b hb h0).1;simp [aX,this],by
   have oD:b≠B:=by rintro rfl;rw [(h.fr.kept _ hb h0).1] at jh;cases jh
   rw [fA.2.2.2.2.1 b oD];exact (h.fr.kept b hb h0).2⟩,by rw [fA.2.1];exact h.fr.os,by rw [fA.2.2.1];exact h.fr.out,by rw [fA.2.2.2.1];exact h.fr.tape⟩
end
def Og (P:aS) (N:Nat) (g:Nat->TT) (o:bQ):ah Stp:=
 match o.dst,o.op with
 | none,.store t p x=>match Yh g p,qg P g t 0 x,P.info? t with
  | some X,some V,some i=>match (g X.r).cts with
   | some cs=>match iC true cs X.sk with
    | some e=>
     if X.r<N/\V.cs.length=i.size/\X.off+V.cs.length<=e.length/\CT.lives V.cs=true/\X.sk≠[]/\X.r∉dO V/\CT.les V.cs ((e.drop X.off).take V.cs.length)=true/\CT.mens (X.r::dO V) cs=false/\CT.mens (X.r::dO V) V.cs=false/\CT.mens (dO V) V.cs=false then
      some ⟨(X.r,g X.r)::(dO V).map (fun t=>(t,.dead)),fun T=>T.kill (X.r::dO V) (X.r::dO V),X.r::(X.rd++V.rd),.det (ow X V)⟩
     else none
    | none=>none
   | none=>none
  | _,_,_=>none
 | _,_=>none
theorem ahn {P:aS} {N:Nat} {g:Nat->TT} {o:bQ} {S:Stp} (h:Og P N g o=some S):d9 P N o g S:=by
 unfold Og at h;split at h;case h_2=>cases h
 case h_1 t p x hd ho=>
 split at h;case h_2=>cases h
 case h_1 X V i hX hV hi=>
 split at h;case h_2=>cases h
 case h_1 cs pM=>
 split at h;case h_2=>cases h
 case h_1 e he=>
 split at h;case isFalse=>cases h
 case isTrue hc=>
 obtain ⟨sN,dH,yB,lV,oF,lG,df,hmr,aGd,hmv⟩:=hc;cases h;intro ac κ0 κ w0 w tg sv s a v next Q hN hR hL hv bT;simp only [Eff.rel,ow] at hv;split at hv;case h_2=>cases hv
 case h_1 is ra as FL BB jH=>
 split at hv;case h_2=>cases hv
 case h_1 row cZ=>
 cases hv;obtain ⟨B,O,hp,kE⟩:=N9 hR hL hX FL;obtain ⟨sO,jF⟩:=AQ hL pM;obtain ⟨ra',yA⟩:=hR.sv_root sO;obtain ⟨is',ik⟩:=cK BB;rw [jF,ik] at yA;cases yA;have oH:sv X.r = .v ra []:=by rw [jF,ik]
 obtain ⟨vs,h1,h2,h3⟩:=Jo hR hL hV jH (srcs:=dO V) (fun ho=>by simp [dO,ho]) hmv;obtain ⟨_,_,_,_,_,qw,_⟩:=rX hR hL hV jH;have aZ:g X.r≠.dead:=fun hg=>by rw [hg] at pM;simp [TT.cts] at pM
 obtain ⟨e1,e2⟩:=hL.at rfl aZ;obtain ⟨hwr,jq⟩:=av2 hR sN sO oH hp oF he cZ (srcs:=dO V) (by unfold dO;split<;>simp;exact fun he=>qw he.symm) lG h2 (off:=X.off) yB df hmr aGd (.inr (.inr trivial));refine KF (w':=bG w B (O+X.off) vs) ?_ (bT undef _ _ _ (upd sv X.r (.v (lH ra X.sk is (splice row X.off as)) [])) (by rw [hd,DC];exact jq) (fun u => ?_) (fun u => ?_))
 ·unfold execOp;rw [ho];simp only;have jG:=vg h1;have bP:=h2.len;have yS:=Wp bP fun k hk=>by
   have:=KH lV h2.row k hk;simpa using this
  have:=Ad (P:=P) (t:=t) (i:=i) (b:=B) (o:=O+X.off) (v:=a.eval x) (w:=w) hi (by rw [<-RL,jG,bP,dH]) (by rw [jG];exact yS) (by rw [<-dH,<-bP];exact hwr);rw [kE,aJ this,jG];rfl
 ·show _=aF _ ((X.r,g X.r)::(dO V).map fun t=>(t,TT.dead)) u;simp only [aF,upd,N8,e1]
 ·show _=aF sv ((((X.r,g X.r)::(dO V).map fun t=>(t,TT.dead)).map (·.1)).zip [_]) u;simp [aF,upd]
end Go.Fw
namespace Go.Fw
theorem Ti {ac:Nat->Nat->aj} {cs:aa CT} {f:Nat->aj} (hn:CT.nowns cs=true):rT ac cs f:=by
 intro k j c e hc;have:=rX.nowns_nth hn hc;simp [CT.nown] at this
section
variable {ac:Nat->Nat->aj} {κ0 κ:aP} {w0 w w':aB} {N:Nat} {tg:Nat->TT} {sv:Nat->AV} {tm:Nat->aj}
theorem aAJ (h:R ac κ0 w0 κ w N tg sv tm) {d t:Nat} (hd:d<N) {ws:aa (Bool × Nat)} {cs:aa CT} (ht:tg t = .tup ws cs)
  {off n:Nat} (hn:off+n<=cs.length) {g:Bool} {x:aj} {as:aa A} (hs:sv t = .v as []) (eF:CT.nowns ((cs.drop off).take n)=true)
  (hx:∀xs vs,tm t = .tuple xs->uO ws xs.toList=some vs->cellsOf g x=some ((vs.drop off).take n)) :
  R ac κ0 w0 (aX κ (iT d) none) w N (kG tg d (.val g ((cs.drop off).take n))) (upd sv d (.v ((as.drop off).take n) [])) (upd tm d x):=by
 refine nT h hd (Grows.refl w) (fun _ _ h=>by cases h) ?_;have h1:=h.tr t;rw [ht] at h1;simp only [TR,bD] at h1 ⊢;obtain ⟨as',xs,vs,g1,g2,g3,g4,g5⟩:=h1;rw [hs] at g1;cases g1;refine ⟨_,_,rfl,hx xs vs g2 g3,by simp;omega,Ti eF,jR (P:=fun _=>True) (j:=off) (get:=fun k=>vs.getD k undef) (fun S _ b hb=>mU (Grows.refl w) (fun _ _ h=>by cases h) S b hb) eF (iH (fun _=>trivial) _) (fun i hi => ?_) (by simpa using mR n (mQ off g5))⟩;have jB:i<n:=by simp at hi;omega
 simp only [dw];rw [dG,qV jB,pQ]
theorem asz {cs:aa CT} {off n:Nat} {f:Nat->aj} (h:rT ac cs f):rT ac (iQ off n cs) f:=by
 intro k j c e hc;rw [vX] at hc;cases h0:cs[k]? with
 | none=>simp [h0] at hc
 | some c0=>
  simp only [h0,dA,aO] at hc;split at hc
  ·cases c0<;>simp [vW] at hc
  ·subst hc;exact h k j c e h0
theorem aAK (h:R ac κ0 w0 κ w N tg sv tm) {d t:Nat} (hd:d<N) (lT:t<N) (yQ:d≠t) {cs:aa CT} (ht:tg t = .val true cs) (hm:CT.mens [t] cs=false)
  {off n:Nat} (hn:off+n<=cs.length) {g:Bool} {x:aj} {as:aa A} (hs:sv t = .v as []) (jo:gY ((cs.drop off).take n)=true)
  (hx:∀vs,cellsOf true (tm t)=some vs->cellsOf g x=some ((vs.drop off).take n)) :
  R ac κ0 w0 (aX κ (iU t off n d) none) w N (upd (upd (fun u=>(tg u).kill [d,t] [t]) t (.val true (iQ off n cs))) d (.val g ((cs.drop off).take n))) (upd sv d (.v ((as.drop off).take n) [])) (upd tm d x):=by
 have h1:=h.tr t;rw [ht] at h1;simp only [TR] at h1;obtain ⟨as',vs,g1,g2,g3,g4,g5⟩:=h1;rw [hs] at g1;cases g1;have mJ:∀i,i<n->((vs.drop off).take n).getD i undef=vs.getD (off+i) undef:=by
  intro i hi;simp only [dw];rw [qV hi,pQ]
 refine agV h hd yQ g5 hm hn (hx vs g2) (by simp;omega) mJ (gu jo) (fun κ' hκ AC _ => ?_) lT;simp only [TR,upd_ne _ _ _ (h_ yQ)];exact ⟨_,vs,hs,g2,by rw [jk];exact g3,asz g4,AC⟩
end
def ab_ (N:Nat) (g:Nat->TT) (o:bQ):ah Stp:=
 match o.dst,o.op with
 | some d,.extract (.tmp t) i=>match g t with
  | .tup ws cs=>match ws[i]? with
   | some (ag,n)=>if d<N/\woff ws i+n<=cs.length/\CT.nowns ((cs.drop (woff ws i)).take n)=true then
     some (Stp.set d (.val ag ((cs.drop (woff ws i)).take n)) [t] (.det (uu t (woff ws i) n))) else none
   | none=>none
  | _=>none
 | _,_=>none
theorem apg {P:aS} {N:Nat} {g:Nat->TT} {o:bQ} {S:Stp} (h:ab_ N g o=some S):d9 P N o g S:=by
 unfold ab_ at h;split at h;case h_2=>cases h
 case h_1 d t i hd ho=>
 split at h;case h_2=>cases h
 case h_1 ws cs hT=>
 split at h;case h_2=>cases h
 case h_1 ag n hw=>
 split at h;case isFalse=>cases h
 case isTrue hc=>
 obtain ⟨hdN,hn,eF⟩:=hc;cases h;intro ac κ0 κ w0 w tg sv s a v next Q hN hR hL hv bT;simp only [Stp.set,Eff.rel,uu,dh] at hv;obtain ⟨as,hg,rfl⟩:=hv;obtain ⟨e1,e2⟩:=hL.at hT (by simp);have h1:=hR.tr t;rw [e1] at h1;simp only [TR] at h1;obtain ⟨as',xs,vs,g1,g2,g3,g4,g5⟩:=h1;obtain ⟨is,hs⟩:=cK hg;rw [e2,hs] at g1;cases g1;obtain ⟨x,hx,hcx,_⟩:=Oc g3 hw;refine jc (d:=d) (x:=x) (w':=w) hd hN hdN ?_ (aAJ hR hdN e1 hn (g:=ag) (x:=x) (as:=as) (by rw [e2,hs]) eF (fun xs' vs' k1 k2=>by
  rw [g2] at k1;cases k1
  rw [g3] at k2;cases k2
  exact hcx)) bT
 unfold execOp;rw [ho];simp only;refine dJ ?_;have kE:a.eval (.tmp t)=gm a t:=rfl;rw [kE,g2];unfold Instr.extract;simp only;have Cj:xs[i]?=some x:=by simpa using hx
 rw [Cj];rfl
theorem asA {P:aS} {st:TypeId} {fs:Array Field} {f:Nat} {fi:Field} {i:TypeInfo} {ag:Bool} {x:aj} {vs:aa aj} {w:aB} (hu:P.underlying st=some (.struct fs)) (hf:fs[f]?=some fi)
  (hi:P.info? fi.type=some i) (hg:wQ P fi.type=some ag) (hx:cellsOf true x=some vs) (h1:ag=true\/i.size=1) (hn:fi.offset+i.size<=vs.length) (uJ:∀y,vs[fi.offset]?=some y->ag=false->∀us,y≠.agg us/\y≠.tuple us) :
  ∃y,(Instr.field st x f).run P w = .ok y w/\cellsOf ag y=some ((vs.drop fi.offset).take i.size):=by
 cases x<;>simp [cellsOf] at hx;rename_i cells;unfold Instr.field;rw [aJ (run_underlying hu w)];simp only [hf];rw [aJ (show (asAgg (.agg cells)).run P w = .ok cells w from rfl)];unfold part;rw [aJ (F4 hg w)];cases ag with
 | true=>
  simp only [if_true];rw [aJ (run_sizeOf hi w)];refine ⟨_,rfl,?_⟩;simp only [cellsOf,aO];rw [<-hx];simp [Array.toList_extract]
 | false=>
  simp only [iP,if_false];have hs:i.size=1:=by simpa using h1
  have hl:fi.offset<vs.length:=by omega
  have hc:cells[fi.offset]?=some (vs[fi.offset]):=by
   rw [<-Array.getElem?_toList];simp only [hx];exact aT hl
  rw [hc];refine ⟨_,rfl,?_⟩;rw [hs,u6 hl];have:=uJ _ (aT hl) rfl;cases hv:vs[fi.offset] with
  | agg us=>exact absurd hv (this us).1
  | tuple us=>exact absurd hv (this us).2
  | _=>simp [cellsOf]
def TT.vcs:TT->ah (aa CT)
 | .val true cs=>some cs
 | .alias true cs _ _ _ _=>some cs
 | _=>none
def TT.isV:TT->Bool
 | .val _ _=>true
 | _=>false
def aho (P:aS) (N:Nat) (g:Nat->TT) (o:bQ):ah Stp:=
 match o.dst,o.op with
 | some d,.field st (.tmp t) f=>match P.underlying st with
  | some (.struct fs)=>match fs[f]? with
   | some fi=>match P.info? fi.type,wQ P fi.type,(g t).vcs with
    | some i,some ag,some cs=>
     if d<N/\t<N/\fi.offset+i.size<=cs.length/\(ag=true\/i.size=1)/\CT.lives ((cs.drop fi.offset).take i.size)=true then
      if CT.nowns ((cs.drop fi.offset).take i.size)=true then some (Stp.set d (.val ag ((cs.drop fi.offset).take i.size)) [t] (.det (uu t fi.offset i.size)))
      else if (g t).isV=true/\d≠t/\CT.mens [t] cs=false/\gY ((cs.drop fi.offset).take i.size)=true then
       some ⟨[(d,.val ag ((cs.drop fi.offset).take i.size)),(t,.val true (iQ fi.offset i.size cs))],fun T=>T.kill [d,t] [t],[t],.det (uu t fi.offset i.size)⟩
      else none
     else none
    | _,_,_=>none
   | none=>none
  | _=>none
 | _,_=>none
theorem aAL {ac:Nat->Nat->aj} {κ:aP} {w:aB} {tg:Nat->TT} {sv:Nat->AV} {tm:Nat->aj} {t:Nat} {T:TT} {cs:aa CT} (hc:T.vcs=some cs) (h:TR ac κ w tg sv tm t T) :
  ∃as is vs,sv t = .v as is/\cellsOf true (tm t)=some vs/\vs.length=cs.length/\aC κ w cs (t,[]) 0 (fun k=>vs.getD k undef) as:=by
 cases T with
 | val ag cs'=>
  cases ag<;>simp only [TT.vcs,aO,reduceCtorEq] at hc;subst hc;simp only [TR] at h;obtain ⟨as,vs,g1,g2,g3,g4,g5⟩:=h;exact ⟨as,_,vs,g1,g2,g3,g5⟩
 | alias ag cs' r sk off S=>
  cases ag<;>simp only [TT.vcs,aO,reduceCtorEq] at hc;subst hc;simp only [TR] at h;obtain ⟨as,is,vs,gf,ra,row,g1,g2,g3,g4,g5,_⟩:=h;exact ⟨as,is,vs,g1,g2,g3,g5⟩
 | _=>simp [TT.vcs] at hc
theorem asB {P:aS} {N:Nat} {g:Nat->TT} {o:bQ} {S:Stp} (h:aho P N g o=some S):d9 P N o g S:=by
 unfold aho at h;split at h;case h_2=>cases h
 case h_1 d st t f hd ho=>
 split at h;case h_2=>cases h
 case h_1 fs hu=>
 split at h;case h_2=>cases h
 case h_1 fi hf=>
 split at h;case h_2=>cases h
 case h_1 i ag cs hi hg hT=>
 split at h;case isFalse=>cases h
 case isTrue hc=>
 obtain ⟨hdN,lT,hn,h1,lV⟩:=hc;have key:∀{ac:Nat->Nat->aj} {κ0 κ:aP} {w0 w:aB} {tg:Nat->TT} {sv s:Nat->AV} {a:Act} {as:aa A},R ac κ0 w0 κ w N tg sv (gm a)->Le g s tg sv->iK t s=some as ->
   ∃is vs x,tg t=g t/\sv t = .v as is/\cellsOf true (gm a t)=some vs/\(execOp a.eval o).run P w = .ok (.value x) w/\cellsOf ag x=some ((vs.drop fi.offset).take i.size)/\vs.length=cs.length/\aC κ w cs (t,[]) 0 (fun k=>vs.getD k undef) as:=by
  intro ac κ0 κ w0 w tg sv s a as hR hL hgA;obtain ⟨e1,e2⟩:=hL.at (T:=g t) rfl (by intro h;rw [h] at hT;simp [TT.vcs] at hT);have h2:=hR.tr t;rw [e1] at h2;obtain ⟨as',is,vs,g1,g2,g3,g4⟩:=aAL hT h2;obtain ⟨is',hs⟩:=cK hgA;rw [e2,hs] at g1;cases g1;have gT:=mR i.size (mQ fi.offset g4);obtain ⟨y,Rt,hy2⟩:=asA (w:=w) hu hf hi hg g2 h1 (by omega) (fun y hy NK=>by
   have kK:i.size=1:=by rcases h1 with h1|h1<;>simp_all
   have hl1:((cs.drop fi.offset).take i.size).length=1:=by simp;omega
   have:=gW (k:=0) gT (aT (by omega)) (aT (by rw [dE gT];omega))
   have yS:=Jn (rV lV (aT (by omega))) this
   have:=R3 yS
   simpa [dw,hy] using this)
  refine ⟨is,vs,y,e1,by rw [e2,hs],g2,?_,hy2,g3,g4⟩;unfold execOp;rw [ho];simp only;exact dJ Rt
 split at h;case isTrue eF=>
  cases h;intro ac κ0 κ w0 w tg sv s a v next Q hN hR hL hv bT;simp only [Stp.set,Eff.rel,uu,dh] at hv;obtain ⟨as,hgA,rfl⟩:=hv;obtain ⟨is,vs,x,e1,hs,mJ,eQ,hcx,hl,ug⟩:=key hR hL hgA;refine jc (d:=d) (x:=x) (w':=w) hd hN hdN eQ (κ':=aX κ (iT d) none) ?_ bT;refine nT hR hdN (Grows.refl w) (fun _ _ h=>by cases h) ?_;simp only [TR,bD];refine ⟨_,_,rfl,hcx,by simp;omega,Ti eF,jR (P:=fun _=>True) (j:=fi.offset) (get:=fun k=>vs.getD k undef) (fun S _ b hb=>mU (Grows.refl w) (fun _ _ h=>by cases h) S b hb) eF (iH (fun _=>trivial) _) (fun k hk => ?_) (by simpa using mR i.size (mQ fi.offset ug))⟩;have om:k<i.size:=by simp at hk;omega
  simp only [dw];rw [dG,qV om,pQ]
 case isFalse eF=>
  split at h;case isFalse=>cases h
  case isTrue hc2=>
  obtain ⟨hV,yQ,hm,jo⟩:=hc2;cases h;intro ac κ0 κ w0 w tg sv s a v next Q hN hR hL hv bT;simp only [Eff.rel,uu,dh] at hv;obtain ⟨as,hgA,rfl⟩:=hv;obtain ⟨is,vs,x,e1,hs,mJ,eQ,hcx,hl,ug⟩:=key hR hL hgA;have XO:g t = .val true cs:=by
   cases NH:g t with
   | val ag' cs'=>rw [NH] at hT;cases ag'<;>simp [TT.vcs] at hT;rw [hT]
   | _=>rw [NH] at hV;simp [TT.isV] at hV
  have pJ:is=[]:=by
   have h2:=hR.tr t;rw [e1,XO] at h2;simp only [TR] at h2;obtain ⟨_,_,g1,_⟩:=h2;rw [hs] at g1;cases g1;rfl
  subst pJ;have jq:=aAK hR hdN lT yQ (by rw [e1,XO]) hm hn (g:=ag) (x:=x) (as:=as) hs jo (fun vs' k1=>by rw [mJ] at k1;cases k1;exact hcx);refine KE (w':=w) (x:=x) eQ (bT x w _ _ _ (by rw [hd,qf (a:=a) (by rw [hN];exact hdN)];exact jq) (fun u => ?_) (fun u => ?_))
  ·simp only [aF,upd]
  ·simp [aF,upd]
end Go.Fw
namespace Go.Fw
mutual
def CT.frz:CT->CT
 | .d=>.d
 | .sl (.own _) e=>.sl (.ro []) (CT.frzs e)
 | .sl m e=>.sl m (CT.frzs e)
def CT.frzs:aa CT->aa CT
 | []=>[]
 | c::cs=>c.frz::CT.frzs cs
end
theorem jP:∀cs:aa CT,(CT.frzs cs).length=cs.length
 | []=>rfl
 | c::cs=>by simp [CT.frzs,jP cs]
section
variable {κ κ':aP} {w:aB} {t m:Nat}
mutual
theorem aAM (bu:∀S b,bn κ w S b->bn κ' w S b) (hk:∀b q,κ b=some (t,q)->m<=q.length->κ' b=none):∀{c:CT} {p:Pl} {x:aj} {a:A},p.1=t->m<=p.2.length->RC κ w c p x a->RC κ' w c.frz p x a
 | .d,_,_,.v _,_,_,h=>by simpa only [CT.frz,RC] using h
 | .d,_,_,.s _,_,_,h=>by simp [RC] at h
 | .sl (.own k) e,p,x,.s xs,hp,hm,h=>by
  simp only [CT.frz,RC,jP] at h ⊢;obtain ⟨ao,cap,h1,h2,h3⟩:=h;refine ⟨ao,cap,h1,h2,?_⟩;rcases h3 with ⟨rfl,rfl⟩|⟨b,o,g1,g2,g3,g4,g5⟩
  ·left;exact qW.1 (by omega)
  ·right;have hb:κ' b=none:=hk b p.2 (by rw [g3,<-hp]) hm;refine ⟨b,o,g1,⟨g2,fun r q hq=>by rw [hb] at hq;cases hq⟩,fun o' h1 BC=>(g4 o' h1 ?_).1,Ju bu hk hp (by omega) g5⟩;have:=jK e.length h2;omega
 | .sl (.ro S) e,p,x,.s xs,hp,hm,h=>by
  simp only [CT.frz,RC,jP] at h ⊢;obtain ⟨ao,cap,h1,h2,h3⟩:=h;refine ⟨ao,cap,h1,h2,?_⟩;rcases h3 with h3|⟨b,o,g1,g2,g3,g4⟩
  ·exact .inl h3
  ·exact .inr ⟨b,o,g1,bu S b g2,g3,Ju bu hk hp (by omega) g4⟩
 | .sl .dead e,p,x,.s xs,_,_,h=>by simp [CT.frz,RC]
 | .sl .dead e,p,x,.v _,_,_,h=>by simp [CT.frz,RC]
 | .sl (.own k) e,p,x,.v _,_,_,h=>by simp [RC] at h
 | .sl (.ro S) e,p,x,.v _,_,_,h=>by simp [RC] at h
theorem aca (bu:∀S b,bn κ w S b->bn κ' w S b) (hk:∀b q,κ b=some (t,q)->m<=q.length->κ' b=none):∀{cs:aa CT} {p:Pl} {j:Nat} {get:Nat->aj} {as:aa A},p.1=t->m<=p.2.length+1->aC κ w cs p j get as->aC κ' w (CT.frzs cs) p j get as
 | [],_,_,_,[],_,_,_=>by simp [CT.frzs,aC]
 | [],_,_,_,_::_,_,_,h=>by simp [aC] at h
 | c::cs,p,j,get,[],_,_,h=>by simp [aC] at h
 | c::cs,p,j,get,a::as,hp,hm,h=>by
  simp only [CT.frzs,aC] at h ⊢;exact ⟨aAM bu hk (by simpa [Pl.at] using hp) (by simpa [Pl.at] using hm) h.1,aca bu hk hp hm h.2⟩
theorem Ju (bu:∀S b,bn κ w S b->bn κ' w S b) (hk:∀b q,κ b=some (t,q)->m<=q.length->κ' b=none):∀{e:aa CT} {p:Pl} {j:Nat} {get:Nat->aj} {xs:aa (aa A)},p.1=t->m<=p.2.length+1->dC κ w e p j get xs->dC κ' w (CT.frzs e) p j get xs
 | _,_,_,_,[],_,_,_=>by simp [dC]
 | e,p,j,get,x::xs,hp,hm,h=>by
  simp only [dC,jP] at h ⊢;exact ⟨aca bu hk hp hm h.1,Ju bu hk hp hm h.2⟩
end
end
def CT.inn:CT->CT
 | .sl (.own k) e=>.sl (.own k) (CT.frzs e)
 | c=>c.frz
def zk (t m:Nat) (κ:aP):aP:=fun b=>
 match κ b with
 | some (r,q)=>if r=t/\m<=q.length then none else some (r,q)
 | none=>none
theorem adw {t m:Nat} {κ:aP} {b:Nat} (h:κ b=none):zk t m κ b=none:=by simp [zk,h]
theorem Oh {t m:Nat} {κ:aP} {b r:Nat} {q:aa Nat} (h:zk t m κ b=some (r,q)):κ b=some (r,q):=by
 unfold zk at h;split at h
 ·rename_i hk;split at h
  ·cases h
  ·rw [hk];exact h
 ·cases h
theorem amB {t m:Nat} {κ:aP} {b r:Nat} {q:aa Nat} (h:κ b=some (r,q)) (hr:r≠t\/q.length<m):zk t m κ b=some (r,q):=by
 unfold zk;rw [h];simp only;rw [if_neg (by rintro ⟨h1,h2⟩;rcases hr with hr|hr<;>first|exact hr h1|omega)]
theorem azu {κ:aP} {w:aB} {t:Nat}:∀{cs:aa CT} {j:Nat} {get:Nat->aj} {as:aa A},aC κ w cs (t,[]) j get as->aC (zk t 2 κ) w (cs.map CT.inn) (t,[]) j get as:=by
 have bu:∀S b,bn κ w S b->bn (zk t 2 κ) w S b:=fun S b hb=>⟨hb.1,fun r q hq=>hb.2 r q (Oh hq)⟩
 have hk:∀b q,κ b=some (t,q)->2<=q.length->zk t 2 κ b=none:=fun b q hb hq=>by simp [zk,hb,hq]
 intro cs;induction cs with
 | nil=>intro j get as h;cases as<;>simp [aC] at h ⊢
 | cons c cs ih=>
  intro j get as h;cases as with
  | nil=>simp [aC] at h
  | cons a as=>
   simp only [aC,bz] at h ⊢;refine ⟨?_,ih h.2⟩;have h1:=h.1;cases c with
   | d=>cases a<;>simp only [CT.inn,CT.frz,RC] at h1 ⊢;exact h1
   | sl md e=>
    cases a with
    | v y=>cases md<;>simp [CT.inn,CT.frz,RC] at h1 ⊢
    | s xs=>
     cases md with
     | own k=>
      simp only [CT.inn,RC,jP] at h1 ⊢;obtain ⟨ao,cap,g1,g2,g3⟩:=h1;refine ⟨ao,cap,g1,g2,?_⟩;rcases g3 with g3|⟨b,o,k1,k2,k3,k4,k5⟩
      ·exact .inl g3
      ·exact .inr ⟨b,o,k1,k2,amB k3 (.inr (by simp)),k4,Ju bu hk (by simp [Pl.at]) (by simp [Pl.at]) k5⟩
     | ro S=>
      simp only [CT.inn,CT.frz,RC,jP] at h1 ⊢;obtain ⟨ao,cap,g1,g2,g3⟩:=h1;refine ⟨ao,cap,g1,g2,?_⟩;rcases g3 with g3|⟨b,o,k1,k2,k3,k4⟩
      ·exact .inl g3
      ·exact .inr ⟨b,o,k1,bu S b k2,k3,Ju bu hk (by simp [Pl.at]) (by simp [Pl.at]) k4⟩
     | dead=>simp [CT.inn,CT.frz,RC]
def CT.deep:CT->Bool
 | .sl (.own _) e=>!CT.nowns e
 | _=>false
def zl (cs:aa CT):Nat × aa CT:=if cs.any CT.deep then (2,cs.map CT.inn) else (1,CT.frzs cs)
theorem av3 (cs:aa CT):(zl cs).2.length=cs.length:=by
 unfold zl;split<;>simp [jP]
theorem av4 {κ:aP} {w:aB} {t:Nat} {cs:aa CT} {get:Nat->aj} {as:aa A} (h:aC κ w cs (t,[]) 0 get as):aC (zk t (zl cs).1 κ) w (zl cs).2 (t,[]) 0 get as:=by
 unfold zl;split
 ·exact azu h
 ·exact aca (t:=t) (m:=1) (fun S b hb=>⟨hb.1,fun r q hq=>hb.2 r q (Oh hq)⟩) (fun b q hb hq=>by simp [zk,hb,hq]) rfl (by simp) h
def Yv (N:Nat) (g:Nat->TT) (t:Nat):ah Stp:=
 match g t with
 | .val ag cs=>if t<N/\gY (zl cs).2=true then some ⟨[(t,.val ag (zl cs).2)],fun T=>T.kill [t] [],[t],.det (gF t)⟩ else none
 | _=>none
theorem aDA {ac:Nat->Nat->aj} {κ0 κ:aP} {w0 w:aB} {N:Nat} {tg:Nat->TT} {sv:Nat->AV} {tm:Nat->aj} (h:R ac κ0 w0 κ w N tg sv tm) {t:Nat} {ag:Bool} {cs:aa CT} (ht:tg t = .val ag cs) (lT:t<N) (jo:gY (zl cs).2=true) :
  R ac κ0 w0 (zk t (zl cs).1 κ) w N (aF (fun u=>(tg u).kill [t] []) [(t,.val ag (zl cs).2)]) sv tm:=by
 refine ul (mods:=[t]) (M:=[]) h ?_ (fun S hS b hb=>⟨⟨hb.1,fun r q hq=>hb.2 r q (Oh hq)⟩,Same.refl w b⟩) (fun b r q hr hb => ?_) (fun r hr => ?_) (fun _ _=>rfl) (fun _ _=>rfl) (fun u hu => ?_) (fun u hu => ?_) (fun b hb=>adw (h.col b hb)) ?_
 ·have:=h.nle;simp only [cB];omega
 ·simp only [cB] at hr;exact ⟨by rw [hb];exact amB hb (.inl hr),Same.refl w b⟩
 ·simp only [cB] at hr;left;simp [aF,hr]
 ·simp only [cB] at hu;subst hu;have h1:=h.tr u;rw [ht] at h1;simp only [TR] at h1;obtain ⟨as,vs,g1,g2,g3,_,g5⟩:=h1;simp only [aF,if_true,TR];exact ⟨as,vs,g1,g2,by rw [g3,av3],gu jo,av4 g5⟩
 ·have:u≠t:=by omega
  simp only [aF,if_neg this,h.out u hu];rfl
 ·refine ⟨h.fr.size,fun b hb h0 => ?_,h.fr.os,h.fr.out,h.fr.tape⟩;have:=h.fr.kept b hb h0;exact ⟨adw this.1,this.2⟩
theorem aAN {P:aS} {N:Nat} {g:Nat->TT} {o:bQ} {t:Nat} {S1 S2:Stp} (h1:Yv N g t=some S1) (h2:d9 P N o (rY g S1) S2) (hv:∀s v,S2.eff.rel P s v->v.length<=S2.up.length) :
  d9 P N o g (Stp.take t S1 S2):=by
 intro ac κ0 κ w0 w tg sv s a v next Q hN hR hL hv0 bT;simp only [Stp.take] at hv0;obtain ⟨s1,kK,kv⟩:=Eff.pre_rel hv0;simp only [F5] at kK;split at kK;case h_2=>cases kK
 case h_1 as jH=>
 cases kK;unfold Yv at h1;split at h1;case h_2=>cases h1
 case h_1 ag cs hT=>
 split at h1;case isFalse=>cases h1
 case isTrue hc=>
 cases h1;obtain ⟨e1,e2⟩:=hL.at hT (by simp);have jq:=aDA hR e1 hc.1 hc.2;have gU:s t = .v as []:=by
  have h5:=hR.tr t;rw [e1] at h5;simp only [TR] at h5;obtain ⟨as',vs,k1,_⟩:=h5;rw [e2] at k1;obtain ⟨is,pJ⟩:=cK jH;rw [k1] at pJ;cases pJ;exact k1
 have nk:upd s t (.v as [])=s:=by
  funext u;unfold upd;split
  ·rename_i hu;rw [hu,gU]
  ·rfl
 rw [nk] at kv;have hL':Le (rY g ⟨[(t,.val ag (zl cs).2)],fun T=>T.kill [t] [],[t],.det (gF t)⟩) s (aF (fun u=>(tg u).kill [t] []) [(t,.val ag (zl cs).2)]) sv:=by
  intro u;simp only [rY,aF];by_cases FO:u=t
  ·right;subst FO;exact ⟨by simp,e2.symm⟩
  ·simp only [if_neg FO];rcases hL u with h3|⟨h3,h4⟩
   ·left;rw [h3];rfl
   ·right;exact ⟨by rw [h3],h4⟩
 refine h2 ac κ0 _ w0 w _ sv s a v next Q hN jq hL' kv fun x w' κ'' tg'' sv'' akE abM abN => ?_
 have Ck:=hv _ _ kv;refine bT x w' κ'' tg'' sv'' akE (fun u => ?_) (fun u => ?_)
 ·rw [abM u];simp only [Stp.take];rw [DJ];by_cases hu:u∈S2.up.map (·.1)
  ·exact bN.upds_in hu
  ·rw [bN.upds_out hu,bN.upds_out hu];simp only [aF,bz,bM];split<;>rfl
 ·rw [abN u];simp only [Stp.take];have hz:((S2.up++[(t,TT.val ag (zl cs).2)].map fun p=>(p.1,S2.kl p.2)).map (·.1)).zip v=(S2.up.map (·.1)).zip v:=by
   rw [uN];exact Js (by simpa using Ck)
  rw [hz]
end Go.Fw
namespace Go.Fw
def MX (a b:ah Stp):ah Stp:=
 match a with
 | some x=>some x
 | none=>b
theorem mi {a b:ah Stp} {S:Stp} (h:MX a b=some S):a=some S\/b=some S:=by
 unfold MX at h;split at h
 ·exact .inl h
 ·exact .inr h
def Eff.cap (n:Nat):Eff->Eff
 | .det f=>.det fun s=>match f s with
  | some v=>if v.length<=n/\0<v.length then some v else none
  | none=>none
 | .call K sg args post=>.call K sg args fun res outs s=>match post res outs s with
  | some v=>if v.length<=n/\0<v.length then some v else none
  | none=>none
theorem Eff.cap_rel {P:aS} {n:Nat} {E:Eff} {s:Nat->AV} {v:aa AV} (h:(E.cap n).rel P s v):E.rel P s v/\v.length<=n/\0<v.length:=by
 cases E with
 | det f=>
  simp only [Eff.cap,Eff.rel] at h ⊢;split at h
  ·rename_i v' hv;split at h
   ·cases h;exact ⟨hv,by assumption⟩
   ·cases h
  ·cases h
 | call K sg args post=>
  simp only [Eff.cap,Eff.rel] at h ⊢;obtain ⟨as,res,outs,h1,h2,h3⟩:=h;split at h3
  ·rename_i v' hv;split at h3
   ·cases h3;exact ⟨⟨as,res,outs,h1,h2,hv⟩,by assumption⟩
   ·cases h3
  ·cases h3
def Stp.cap (S:Stp):Stp:=⟨S.up,S.kl,S.rd,S.eff.cap S.up.length⟩
theorem aAO {P:aS} {N:Nat} {o:bQ} {g:Nat->TT} {S:Stp} (h:d9 P N o g S):d9 P N o g S.cap:=by
 intro ac κ0 κ w0 w tg sv s a v next Q hN hR hL hv bT;exact h ac κ0 κ w0 w tg sv s a v next Q hN hR hL (Eff.cap_rel hv).1 bT
def av5 (P:aS) (sigs:FuncId->ah aM) (N:Nat) (g:Nat->TT) (fq:Bool) (o:bQ):ah Stp:=
 match o.op with
 | .move _=>ze P N g fq o
 | .assign _=>MX (ahh N g fq o) (ze P N g fq o)
 | .nilCheck _=>ze P N g fq o
 | .alloc _=>Yk P N g o
 | .box _ _=>Yk P N g o
 | .build _ _=>Ws P N g o
 | .buildSlice _ _ _=>ag5 P N g o
 | .load _ _=>ab1 P N g o
 | .store _ _ _=>MX (zf P N g o) (Og P N g o)
 | .fieldAddr _ _ _=>Wl P N g o
 | .indexAddr _ _ _=>Wm P N g o
 | .makeSlice _ _ _=>ab4 P N g o
 | .extract _ _=>MX (ab_ N g o) (ahe N g o)
 | .field _ _ _=>MX (aho P N g o) (vY P N g o)
 | .slice _ _ _ _ _=>MX (ab9 P N g fq o) (MX (ab7 P N g fq o) (MX (ahf P N g o) (vY P N g o)))
 | .binOp _ _ _ _ _=>MX (ahk P N g o) (vY P N g o)
 | .convert _ _ _=>vY P N g o
 | .call c=>match c.callee with
  | .builtin .append=>Oa P N g o
  | .builtin _=>MX (ag0 P N g o) (vY P N g o)
  | _=>MX (ab5 P sigs N g o) (Wt P sigs N g o)
 | _=>vY P N g o
theorem azv {P:aS} {sigs:FuncId->ah aM} {N:Nat} {g:Nat->TT} {fq:Bool} {o:bQ} {S:Stp} (h:av5 P sigs N g fq o=some S):d9 P N o g S:=by
 unfold av5 at h;split at h<;>first
  | exact Yg h
  | exact asa h
  | exact ak2 h
  | exact ase h
  | exact ao6 h
  | exact akZ h
  | exact ak0 h
  | exact apa h
  | exact wW h
  | (split at h
     ·exact ag1 h
     ·rcases mi h with h|h
      ·exact asb h
      ·exact wW h
     ·rcases mi h with h|h
      ·exact apc h
      ·exact ak3 h)
  | (rcases mi h with h|h
     ·exact apg h
     ·exact asr h)
  | (rcases mi h with h|h
     ·exact asB h
     ·exact wW h)
  | (rcases mi h with h|h
     ·exact asv h
     ·exact Yg h)
  | (rcases mi h with h|h
     ·exact ak1 h
     ·exact ahn h)
  | (rcases mi h with h|h
     ·exact asy h
     ·exact wW h)
  | (rcases mi h with h|h
     ·exact apf h
     ·rcases mi h with h|h
      ·exact ape h
      ·rcases mi h with h|h
       ·exact asu h
       ·exact wW h)
def TT.isDead:TT->Bool
 | .dead=>true
 | _=>false
theorem F7 {T:TT} (h:T.isDead=true):T = .dead:=by cases T<;>simp [TT.isDead] at h;rfl
def acb (P:aS) (sigs:FuncId->ah aM) (N:Nat) (fq:Bool) (o:bQ):(Nat->TT)->aa Nat->ah Stp
 | g,[]=>match av5 P sigs N g fq o with
  | some S=>if S.kl .dead |>.isDead then some S.cap else none
  | none=>none
 | g,t::ts=>match qE N g t with
  | some S1=>match acb P sigs N fq o (rY g S1) ts with
   | some S2=>if (S2.up.map (·.1)).contains t then some (Stp.take t S1 S2) else none
   | none=>none
  | none=>match Yv N g t with
   | some S1=>match acb P sigs N fq o (rY g S1) ts with
    | some S2=>some (Stp.take t S1 S2)
    | none=>none
   | none=>none
theorem amC {S1:Stp} {N:Nat} {g:Nat->TT} {t:Nat} (h1:qE N g t=some S1):S1.kl .dead = .dead:=by
 unfold qE at h1;split at h1;case h_2=>cases h1
 case h_1 ag cs0 r off S0 hT=>
 split at h1
 ·split at h1
  ·cases h1;rfl
  ·cases h1
 ·split at h1
  ·cases h1;rfl
  ·cases h1
 ·cases h1
theorem acd {P:aS} {sigs:FuncId->ah aM} {N:Nat} {fq:Bool} {o:bQ}:∀{ts:aa Nat} {g:Nat->TT} {S:Stp},acb P sigs N fq o g ts=some S ->
  d9 P N o g S/\S.kl .dead = .dead/\∀s v,S.eff.rel P s v->v.length<=S.up.length/\0<v.length
 | [],g,S,h=>by
  simp only [acb] at h
  split at h
  case h_2=>cases h
  case h_1 S' hS=>
  split at h
  case isFalse=>cases h
  case isTrue hd=>
  cases h
  exact ⟨aAO (azv hS),F7 hd,fun s v hv=>(Eff.cap_rel hv).2⟩
 | t::ts,g,S,h=>by
  simp only [acb] at h
  split at h
  case h_2=>
   split at h
   case h_2=>cases h
   case h_1 S1 h1=>
   split at h
   case h_2=>cases h
   case h_1 S2 h2=>
   cases h
   obtain ⟨k1,k2,k3⟩:=acd h2
   have hk:S1.kl .dead = .dead:=by
    unfold Yv at h1;split at h1
    ·split at h1
     ·cases h1;rfl
     ·cases h1
    ·cases h1
   refine ⟨aAN h1 k1 (fun s v hv=>(k3 s v hv).1),by simp only [Stp.take];rw [hk,k2],fun s v hv => ?_⟩
   obtain ⟨s1,_,hr⟩:=Eff.pre_rel hv
   have:=k3 _ _ hr
   simp only [Stp.take,dR]
   omega
  case h_1 S1 h1=>
  split at h
  case h_2=>cases h
  case h_1 S2 h2=>
  split at h
  case isFalse=>cases h
  case isTrue hc=>
  cases h
  obtain ⟨k1,k2,k3⟩:=acd h2
  refine ⟨azr h1 (amC h1) k2 k1 (by simpa using hc) (fun s v hv=>(k3 s v hv).1),by simp only [Stp.take];rw [amC h1,k2],fun s v hv => ?_⟩
  obtain ⟨s1,_,hr⟩:=Eff.pre_rel hv
  have:=k3 _ _ hr
  simp only [Stp.take,dR]
  omega
end Go.Fw
namespace Go.Fw
mutual
def CT.pure:CT->Bool
 | .d=>true
 | .sl (.own none) e=>CT.pures e
 | .sl _ _=>false
def CT.pures:aa CT->Bool
 | []=>true
 | c::cs=>c.pure&&CT.pures cs
end
mutual
theorem Oi {P:aa Nat->Prop}:∀{c:CT},c.pure=true->c.allS P
 | .d,_=>by simp [CT.allS]
 | .sl (.own none) e,h=>by simp only [CT.pure] at h;simp only [CT.allS];exact Tj h
 | .sl (.own (some _)) e,h=>by simp [CT.pure] at h
 | .sl (.ro S) e,h=>by simp [CT.pure] at h
 | .sl .dead e,h=>by simp [CT.pure] at h
theorem Tj {P:aa Nat->Prop}:∀{cs:aa CT},CT.pures cs=true->CT.allSs P cs
 | [],_=>by simp [CT.allSs]
 | c::cs,h=>by
  simp only [CT.pures,aU] at h;simp only [CT.allSs];exact ⟨Oi h.1,Tj h.2⟩
end
mutual
theorem adx:∀{c:CT},c.pure=true->c.live=true
 | .d,_=>by simp [CT.live]
 | .sl (.own none) e,h=>by simp only [CT.pure] at h;simp only [CT.live];exact H9 h
 | .sl (.own (some _)) e,h=>by simp [CT.pure] at h
 | .sl (.ro S) e,h=>by simp [CT.pure] at h
 | .sl .dead e,h=>by simp [CT.pure] at h
theorem H9:∀{cs:aa CT},CT.pures cs=true->CT.lives cs=true
 | [],_=>by simp [CT.lives]
 | c::cs,h=>by
  simp only [CT.pures,aU] at h;simp only [CT.lives,aU];exact ⟨adx h.1,H9 h.2⟩
end
mutual
theorem av6 {M:aa Nat}:∀{c:CT},c.pure=true->c.men M=false
 | .d,_=>by simp [CT.men]
 | .sl (.own none) e,h=>by simp only [CT.pure] at h;simp only [CT.men];exact Cx h
 | .sl (.own (some _)) e,h=>by simp [CT.pure] at h
 | .sl (.ro S) e,h=>by simp [CT.pure] at h
 | .sl .dead e,h=>by simp [CT.pure] at h
theorem Cx {M:aa Nat}:∀{cs:aa CT},CT.pures cs=true->CT.mens M cs=false
 | [],_=>by simp [CT.mens]
 | c::cs,h=>by
  simp only [CT.pures,aU] at h;simp only [CT.mens,nL];exact ⟨av6 h.1,Cx h.2⟩
end
theorem Oj:∀{cs:aa CT} {k:Nat} {c:CT},CT.pures cs=true->cs[k]?=some c->c.pure=true
 | [],_,_,_,h=>by simp at h
 | c0::cs,0,c,hp,h=>by
  simp only [CT.pures,aU] at hp;simp only [Co,aO] at h;rw [<-h];exact hp.1
 | c0::cs,k+1,c,hp,h=>by
  simp only [CT.pures,aU] at hp;simp only [Kn] at h;exact Oj hp.2 h
theorem ak4 {cs:aa CT} (h:CT.pures cs=true):gY cs=true:=by
 unfold gY;rw [bX];intro c hc;obtain ⟨k,hk,rfl⟩:=wJ hc;have:=Oj h (aT hk);generalize cs[k]=c at this ⊢;cases c with
 | d=>rfl
 | sl m e=>
  cases m with
  | own p=>cases p with
   | none=>rfl
   | some q=>simp [CT.pure] at this
  | ro S=>simp [CT.pure] at this
  | dead=>simp [CT.pure] at this
theorem KN (S:aa Nat):∀{cs:aa CT} {k:Nat} {c:CT},(CT.roizes S cs)[k]?=some c->∃c0,cs[k]?=some c0/\c=c0.roize S
 | [],k,c,h=>by simp [CT.roizes] at h
 | c0::cs,0,c,h=>by
  simp only [CT.roizes,Co,aO] at h;exact ⟨c0,rfl,h.symm⟩
 | c0::cs,k+1,c,h=>by
  simp only [CT.roizes,Kn] at h;obtain ⟨c1,h1,h2⟩:=KN S h;exact ⟨c1,by simpa using h1,h2⟩
section
variable {ac:Nat->Nat->aj} {κ0 κ:aP} {w0 w:aB} {N:Nat} {tg:Nat->TT} {sv:Nat->AV} {tm:Nat->aj}
theorem azw (h:R ac κ0 w0 κ w N tg sv tm) {r:Nat} {cs cs':aa CT} (hr:tg r = .box cs) (sN:r<N) (h2:TR ac κ w tg sv tm r (.box cs')):R ac κ0 w0 κ w N (upd tg r (.box cs')) sv tm:=by
 have lF:∀u x,rg w (upd tg r (.box cs') u) x=rg w (tg u) x/\rb (upd tg r (.box cs') u) x=rb (tg u) x:=by
  intro u x;by_cases hu:u=r
  ·subst hu;rw [bD,hr];cases x with
   | pointer a=>cases a<;>exact ⟨rfl,rfl⟩
   | _=>exact ⟨rfl,rfl⟩
  ·rw [upd_ne _ _ _ hu];exact ⟨rfl,rfl⟩
 refine ⟨fun t => ?_,fun t ht => ?_,h.col,h.fr,h.fb,h.nle⟩
 ·by_cases ht:t=r
  ·subst ht;rw [bD];simpa only [TR] using h2
  ·rw [upd_ne _ _ _ ht];have:=h.tr t;cases hT:tg t with
   | alias ag cs r' sk off S=>rw [hT] at this;simp only [TR,(lF r' (tm r')).2,show rg w (upd tg r (.box cs') r') (tm r')=rg w (tg r') (tm r') from (lF r' (tm r')).1] at this ⊢;exact this
   | ptr r' sk off S=>rw [hT] at this;simp only [TR,(lF r' (tm r')).2,show rg w (upd tg r (.box cs') r') (tm r')=rg w (tg r') (tm r') from (lF r' (tm r')).1] at this ⊢;exact this
   | dead=>simp [TR]
   | val=>rw [hT] at this;simpa only [TR] using this
   | box=>rw [hT] at this;simpa only [TR] using this
   | tup=>rw [hT] at this;simpa only [TR] using this
 ·rw [upd_ne _ _ _ (by omega)];exact h.out t ht
end
theorem ahp {P:aS} {N:Nat} {g:Nat->TT} {o:bQ} {S:Stp} {t:TypeId} {p y:iN} (h:zf P N g o=some S) (ho:o.op = .store t p y) :
  ∃X V,Yh g p=some X/\qg P g t 0 y=some V/\S.eff = .det (ow X V):=by
 unfold zf at h;split at h;case h_2=>cases h
 case h_1 t' p' y' hd oq=>
 rw [ho] at oq;cases oq;split at h;case h_2=>cases h
 case h_1 X V i hX hV hi=>
 refine ⟨X,V,hX,hV,?_⟩;split at h;case h_2=>cases h
 case h_1 cs pM=>
 split at h;case h_2=>cases h
 case h_1 e he=>
 split at h;case isFalse=>cases h
 case isTrue hc=>
 split at h
 ·split at h;case isFalse=>cases h
  case isTrue hm=>cases h;rfl
 ·split at h;case h_2=>cases h
  case h_1 cr oF Je=>
  split at h;case isFalse=>cases h
  case isTrue hc2=>cases h;rfl
def ace (P:aS) (N:Nat) (g:Nat->TT) (o:bQ) (x:Nat):ah Stp:=
 match g x with
 | .alias ag cs0 r [] 0 _=>match g r,qE N g x with
  | .box cr,some S1=>match zf P N (rY g S1) o,o.dst,o.op with
   | some S2,none,.store t (.tmp d) (.tmp y)=>match g d,P.info? t with
    | .box cd,some i=>
     if y=x/\x<N/\r<N/\d<N/\x≠r/\d≠r/\d≠x/\cs0.length=cr.length/\cr.length=i.size/\cd.length=cr.length/\CT.pures cr=true/\CT.mens [x,r] cd=false/\S2.up.length=2/\(S2.kl .dead).isDead=true then
      some ⟨[(d,.box cr),(x,.dead),(r,.box (CT.roizes [d] cr))],fun T=>(T.kill [x,r] [r]).killS d [d,x] [x],[x,r,d],(S2.cap.eff).pre (F5 x)⟩
     else none
    | _,_=>none
   | _,_,_=>none
  | _,_=>none
 | _=>none
theorem aph {κ:aP} {w:aB} {tgd:Nat} {r n x d:Nat} {B:Nat} {vs:aa aj} (ku:∀b,w.heap.size<=b->κ b=none) (Cm:x≠r) (Bw:d≠r) (V6:d≠x) (hB:κ B=some (d,[])) :
  (∀b k q,k<n->κ b=some (r,k::q)->aX (aX κ (iU r 0 n x) none) (uo d 0 n [x]) none b=some (d,k::q)/\Same w (bG w B 0 vs) b) /\
  (∀b,κ b=some (r,[])->aX (aX κ (iU r 0 n x) none) (uo d 0 n [x]) none b=some (r,[])/\Same w (bG w B 0 vs) b):=by
 constructor
 ·intro b k q hk hb;refine ⟨?_,dF (by rintro rfl;rw [hB] at hb;simp at hb)⟩;simp only [aX,hb,ae,iU,if_true];rw [if_pos ⟨wN _,by omega⟩];simp only [ae,uo,rR];rw [if_neg (h_ V6)];simp
 ·intro b hb;refine ⟨?_,dF (by rintro rfl;rw [hB] at hb;cases hb;exact Bw rfl)⟩;simp only [aX,hb,ae,iU,if_true,uo];rw [if_neg (h_ Bw),if_neg (by simpa using h_ Cm)]
theorem api {P:aS} {N:Nat} {g:Nat->TT} {o:bQ} {x:Nat} {S:Stp} (h:ace P N g o x=some S) :
  d9 P N o g S/\S.kl .dead = .dead/\∀s v,S.eff.rel P s v->v.length<=S.up.length/\0<v.length:=by
 unfold ace at h;split at h;case h_2=>cases h
 case h_1 ag cs0 r S0 hgx=>
 split at h;case h_2=>cases h
 case h_1 cr S1 gP hS1=>
 split at h;case h_2=>cases h
 case h_1 S2 t d y hS2 MS ho=>
 split at h;case h_2=>cases h
 case h_1 cd i BG hi=>
 split at h;case isFalse=>cases h
 case isTrue hc=>
 obtain ⟨rfl,hxN,sN,hdN,Cm,Bw,V6,hl0,hlc,hld,abP,aCU,aGe,_⟩:=hc;cases h;refine ⟨?_,rfl,fun s v hv => ?_⟩
 rotate_left
 ·obtain ⟨s1,_,hr⟩:=Eff.pre_rel hv;have:=(Eff.cap_rel hr).2;rw [aGe] at this;simp only [bI,bS];omega
 intro ac κ0 κ w0 w tg sv s a v next Q hN hR hL hv bT;obtain ⟨s1,kK,kv⟩:=Eff.pre_rel hv;simp only [F5] at kK;split at kK;case h_2=>cases kK
 case h_1 as jH=>
 cases kK;have kv:=(Eff.cap_rel kv).1;obtain ⟨X,V,hX,hV,axe⟩:=ahp hS2 ho
 -- what is known behind the taking
 have aCV:S1=⟨[(y,.val ag ((cr.drop 0).take cs0.length)),(r,.box (iQ 0 cs0.length cr))],fun T=>T.killS r [y,r] [r],[y],.det (gF y)⟩:=by
  unfold qE at hS1;rw [hgx] at hS1;simp only [gP] at hS1;split at hS1
  ·cases hS1;rfl
  ·cases hS1
 have aCW:(cr.drop 0).take cs0.length=cr:=by rw [tu,hl0,nN]
 rw [aCW] at aCV;subst aCV;have aGf:rY g ⟨[(y,.val ag cr),(r,.box (iQ 0 cs0.length cr))],fun T=>T.killS r [y,r] [r],[y],.det (gF y)⟩ d = .box (cd.map (oJ [r])):=by
  simp only [rY,aF];rw [if_neg V6,if_neg Bw,BG];rfl
 have aGg:rY g ⟨[(y,.val ag cr),(r,.box (iQ 0 cs0.length cr))],fun T=>T.killS r [y,r] [r],[y],.det (gF y)⟩ y = .val ag cr:=by
  simp only [rY,aF,if_true]
 simp only [Yh,aGf,aO] at hX;subst hX;simp only [qg,aGg,aO] at hV;subst hV;rw [axe] at kv;simp only [Eff.rel,ow,iK,bD,b_,lH] at kv;split at kv;case h_2=>cases kv
 case h_1 is ra as' FL BB akA=>
 obtain rfl:=Option.some.inj FL;obtain rfl:=Option.some.inj akA;simp only [b_,aO] at kv;subst kv;rw [upd_ne _ _ _ V6] at BB
 -- the state
 obtain ⟨e1,e2⟩:=hL.at hgx (by simp);obtain ⟨r1,r2⟩:=hL.at gP (by simp);obtain ⟨d1,d2⟩:=hL.at BG (by simp);obtain ⟨is,hs⟩:=cK jH;have hTx:=hR.tr y;rw [e1] at hTx;simp only [TR] at hTx;obtain ⟨asx,isx,vsx,gx,rax,rowx,x1,_,_,_,_,x5,_⟩:=hTx;have aGh:isx=[]:=by
  cases isx with
  | nil=>rfl
  | cons=>simp [fJ] at x5
 subst aGh;rw [e2,hs] at x1;cases x1;have hTd:=hR.tr d;rw [d1] at hTd;simp only [TR] at hTd;obtain ⟨ad,B0,dd1,dd2,dd3,dd4,dd5,dd6,dd7⟩:=hTd;have aGi:ad=ra:=by
  rw [d2] at dd1;rw [dd1] at BB;simpa using BB
 subst aGi;have hTr:=hR.tr r;rw [r1] at hTr;simp only [TR] at hTr;obtain ⟨ar,br,rr1,rr2,rr3,rr4,rr5,rr6,rr7⟩:=hTr;have hR1:=ar5 hR hxN sN Cm e1 (cs:=cr) (by rw [r1];rfl) (Cx abP) (by omega) (by rw [e2,hs]) (tag':=.box (iQ 0 cs0.length cr)) (by rw [r1]);rw [aCW] at hR1;have axf:=hR1.tr y;rw [bD] at axf;simp only [TR,bD] at axf;obtain ⟨ay,vs,y1,y2,y3,y4,y5⟩:=axf;cases y1;have aGj:upd (upd (fun u=>(tg u).kill [y,r] [r]) r (.box (iQ 0 cs0.length cr))) y (.val ag cr) d = .box cd:=by
  rw [upd_ne _ _ _ V6,upd_ne _ _ _ Bw,d1];simp only [TT.kill];rw [ao3];have uY:∀{cs:aa CT},CT.mens [y,r] cs=false->CT.mens [r] cs=false:=by
   have key:(∀c:CT,c.men [y,r]=false->c.men [r]=false):=by
    intro c;refine CT.rec (motive_1:=fun c=>c.men [y,r]=false->c.men [r]=false) (motive_2:=fun cs=>CT.mens [y,r] cs=false->CT.mens [r] cs=false) ?_ ?_ ?_ ?_ c
    ·intro _;rfl
    ·intro m e ih h;cases m with
     | own p=>simp only [CT.men] at h ⊢;exact ih h
     | dead=>simp only [CT.men] at h ⊢;exact ih h
     | ro S=>
      simp only [CT.men,nL,RQ] at h ⊢;refine ⟨fun z hz => ?_,ih h.2⟩;have:=h.1 z hz;simp only [List.contains_cons,List.contains_nil,Bool.or_false,iE,not_or] at this ⊢;exact this.2
    ·intro _;rfl
    ·intro c cs h1 h2 h;simp only [CT.mens,nL] at h ⊢;exact ⟨h1 h.1,h2 h.2⟩
   intro cs;induction cs with
   | nil=>intro _;rfl
   | cons c cs ih=>
    intro h;simp only [CT.mens,nL] at h ⊢;exact ⟨key c h.1,ih h.2⟩
  exact uY aCU
 have hmx:CT.mens [y] cd=false:=by
  have key:(∀c:CT,c.men [y,r]=false->c.men [y]=false):=by
   intro c;refine CT.rec (motive_1:=fun c=>c.men [y,r]=false->c.men [y]=false) (motive_2:=fun cs=>CT.mens [y,r] cs=false->CT.mens [y] cs=false) ?_ ?_ ?_ ?_ c
   ·intro _;rfl
   ·intro m e ih h;cases m with
    | own p=>simp only [CT.men] at h ⊢;exact ih h
    | dead=>simp only [CT.men] at h ⊢;exact ih h
    | ro S=>
     simp only [CT.men,nL,RQ] at h ⊢;refine ⟨fun z hz => ?_,ih h.2⟩;have:=h.1 z hz;simp only [List.contains_cons,List.contains_nil,Bool.or_false,iE,not_or] at this ⊢;exact this.1
   ·intro _;rfl
   ·intro c cs h1 h2 h;simp only [CT.mens,nL] at h ⊢;exact ⟨h1 h.1,h2 h.2⟩
  have:∀cs:aa CT,CT.mens [y,r] cs=false->CT.mens [y] cs=false:=by
   intro cs;induction cs with
   | nil=>intro _;rfl
   | cons c cs ih=>
    intro h;simp only [CT.mens,nL] at h ⊢;exact ⟨key c h.1,ih h.2⟩
  exact this cd aCU
 have aGk:upd sv y (.v as []) d = .v ad []:=by rw [upd_ne _ _ _ V6,dd1]
 have hfy:FB∉[y]:=by
  have:=hR.nle;simp only [cB];omega
 obtain ⟨B,hB,hwr,BF⟩:=agY hR1 hdN aGj aGk (srcs:=[y]) hfy (by simpa using V6) (t:=y) (cs:=cr) (vs:=vs) (as:=as) ⟨y5,y3,.inl (by simp),Cx abP⟩ (off:=0) (by omega) hmx (ak4 abP);rw [dd2] at hB;cases hB;have aw7:splice cd 0 cr=cr:=by simp [splice,hld]
 rw [aw7] at BF;obtain ⟨F1,F2⟩:=aph (w:=w) (tgd:=0) (n:=cs0.length) (vs:=vs) hR.col Cm Bw V6 dd4;rw [<-hl0] at BF;have hbr:br≠B0:=by
  rintro rfl;rw [dd4] at rr4;cases rr4;exact Bw rfl
 have ayM:(CT.roizes [d] cr).length=cr.length:=dx _ _;have aGl:∀{T:TT},upd (fun u=>if u∈[y] then TT.dead else (upd (upd (fun u=>(tg u).kill [y,r] [r]) r (.box (iQ 0 cs0.length cr))) y (.val ag cr) u).killS d (d::[y]) [y]) d T r = .box ((iQ 0 cs0.length cr).map (oJ [y])):=by
  intro T;rw [upd_ne _ _ _ (h_ Bw)];simp only [cB,h_ Cm,if_false];rw [upd_ne _ _ _ (h_ Cm),bD];rfl
 have hTR:TR ac (aX (aX κ (iU r 0 cs0.length y) none) (uo d 0 cs0.length [y]) none) (bG w B0 0 vs) (upd (fun u=>if u∈[y] then TT.dead else (upd (upd (fun u=>(tg u).kill [y,r] [r]) r (.box (iQ 0 cs0.length cr))) y (.val ag cr) u).killS d (d::[y]) [y]) d (.box cr)) (upd (upd sv y (.v as [])) d (.v (splice ad 0 as) [])) (gm a) r (.box (CT.roizes [d] cr)):=by
  simp only [TR];refine ⟨ar,br,?_,rr2,?_,(F2 br rr4).1,?_,?_,?_⟩
  ·rw [upd_ne _ _ _ (h_ Bw),upd_ne _ _ _ (h_ Cm),rr1]
  ·rw [(kP vs w B0 0).1];exact rr3
  ·rw [ayM];exact (dF hbr).wrb rr5
  ·intro k j c e hk;obtain ⟨c0,_,h2⟩:=KN [d] hk;cases c0<;>simp [CT.roize] at h2
  ·refine lY (by rw [ayM];exact dE rr7) fun k c a' hk ha => ?_
   obtain ⟨c0,h1,rfl⟩:=KN [d] hk;have NJ:=(bf h1).1;have h0:=gW rr7 h1 ha;have NP:=Oj abP h1;have lD:cellD (bG w B0 0 vs) br (0+k)=cellD w br (0+k):=(dF hbr).cD (lo:=0) (hi:=cr.length) (rr5.rdb) (by omega) (by omega);rw [lD];have h3:=Ji (κ':=aX (aX κ (iU r 0 cs0.length y) none) (uo d 0 cs0.length [y]) none) (w':=bG w B0 0 vs) (f:=id) (P:=fun _=>False) (p':=(d,[0+k])) (fun S hS=>hS.elim) (Oi NP) (fun b q hb=>by
    have:=F1 b (0+k) q (by omega) (by simpa [Pl.at] using hb)
    simpa using this) h0
   rw [RY] at h3;exact aoR (adx NP) (by simp) (by simp) (Oi NP) h3
 have hR3:=azw BF aGl sN hTR;refine KF (w':=bG w B0 0 vs) ?_ (bT undef _ _ _ _ (by rw [MS,DC];exact hR3) (fun u => ?_) (fun u => ?_))
 ·unfold execOp;rw [ho];simp only;have hey:a.eval (.tmp y)=gm a y:=rfl;have hed:a.eval (.tmp d)=gm a d:=rfl;have jG:=vg y2;have yS:=Wp y3 fun k hk=>by
   have:=KH (H9 abP) y5 k hk;simpa using this
  have:=Ad (P:=P) (t:=t) (i:=i) (b:=B0) (o:=0) (v:=gm a y) (w:=w) hi (by rw [<-RL,jG,y3,hlc]) (by rw [jG];exact yS) (by rw [<-hlc,<-y3];exact hwr);rw [hey,hed,dd2,aJ this,jG];rfl
 ·show _=aF _ [(d,TT.box cr),(y,TT.dead),(r,TT.box (CT.roizes [d] cr))] u;simp only [aF];by_cases yx:u=r
  ·subst yx;rw [bD,if_neg (h_ Bw),if_neg (h_ Cm),if_pos rfl]
  ·rw [upd_ne _ _ _ yx];by_cases FK:u=d
   ·subst FK;rw [bD,if_pos rfl]
   ·rw [upd_ne _ _ _ FK,if_neg FK];by_cases huy:u=y
    ·subst huy;simp
    ·rw [if_neg (by simpa using huy),if_neg huy,if_neg yx,upd_ne _ _ _ huy,upd_ne _ _ _ yx]
 ·show _=aF sv (([d,y,r]).zip [_]) u;simp only [Kt,List.zip_nil_right,aF];by_cases FK:u=d
  ·subst FK;rw [bD,if_pos rfl]
  ·rw [upd_ne _ _ _ FK,if_neg FK];by_cases huy:u=y
   ·subst huy;rw [bD,e2,hs]
   ·rw [upd_ne _ _ _ huy]
end Go.Fw
namespace Go.Fw
section
variable {κ κ':aP} {w:aB} {t:Nat} {p0:aa Nat}
mutual
theorem amD (bu:∀S b,bn κ w S b->bn κ' w S b) (hk:∀b q,κ b=some (t,q)->p0 <+: q->κ' b=none):∀{c:CT} {p:Pl} {x:aj} {a:A},p.1=t->p0 <+: p.2->RC κ w c p x a->RC κ' w c.frz p x a
 | .d,_,_,.v _,_,_,h=>by simpa only [CT.frz,RC] using h
 | .d,_,_,.s _,_,_,h=>by simp [RC] at h
 | .sl (.own k) e,p,x,.s xs,hp,hm,h=>by
  simp only [CT.frz,RC,jP] at h ⊢;obtain ⟨ao,cap,h1,h2,h3⟩:=h;refine ⟨ao,cap,h1,h2,?_⟩;rcases h3 with ⟨rfl,rfl⟩|⟨b,o,g1,g2,g3,g4,g5⟩
  ·left;exact qW.1 (by omega)
  ·right;have hb:κ' b=none:=hk b p.2 (by rw [g3,<-hp]) hm;refine ⟨b,o,g1,⟨g2,fun r q hq=>by rw [hb] at hq;cases hq⟩,fun o' h1 BC=>(g4 o' h1 ?_).1,Wv bu hk hp hm g5⟩;have:=jK e.length h2;omega
 | .sl (.ro S) e,p,x,.s xs,hp,hm,h=>by
  simp only [CT.frz,RC,jP] at h ⊢;obtain ⟨ao,cap,h1,h2,h3⟩:=h;refine ⟨ao,cap,h1,h2,?_⟩;rcases h3 with h3|⟨b,o,g1,g2,g3,g4⟩
  ·exact .inl h3
  ·exact .inr ⟨b,o,g1,bu S b g2,g3,Wv bu hk hp hm g4⟩
 | .sl .dead e,p,x,.s xs,_,_,h=>by simp [CT.frz,RC]
 | .sl .dead e,p,x,.v _,_,_,h=>by simp [CT.frz,RC]
 | .sl (.own k) e,p,x,.v _,_,_,h=>by simp [RC] at h
 | .sl (.ro S) e,p,x,.v _,_,_,h=>by simp [RC] at h
theorem ahq (bu:∀S b,bn κ w S b->bn κ' w S b) (hk:∀b q,κ b=some (t,q)->p0 <+: q->κ' b=none):∀{cs:aa CT} {p:Pl} {j:Nat} {get:Nat->aj} {as:aa A},p.1=t->p0 <+: p.2->aC κ w cs p j get as->aC κ' w (CT.frzs cs) p j get as
 | [],_,_,_,[],_,_,_=>by simp [CT.frzs,aC]
 | [],_,_,_,_::_,_,_,h=>by simp [aC] at h
 | c::cs,p,j,get,[],_,_,h=>by simp [aC] at h
 | c::cs,p,j,get,a::as,hp,hm,h=>by
  simp only [CT.frzs,aC] at h ⊢;exact ⟨amD bu hk (by simpa [Pl.at] using hp) (hm.trans (by simp [Pl.at])) h.1,ahq bu hk hp hm h.2⟩
theorem Wv (bu:∀S b,bn κ w S b->bn κ' w S b) (hk:∀b q,κ b=some (t,q)->p0 <+: q->κ' b=none):∀{e:aa CT} {p:Pl} {j:Nat} {get:Nat->aj} {xs:aa (aa A)},p.1=t->p0 <+: p.2->dC κ w e p j get xs->dC κ' w (CT.frzs e) p j get xs
 | _,_,_,_,[],_,_,_=>by simp [dC]
 | e,p,j,get,x::xs,hp,hm,h=>by
  simp only [dC,jP] at h ⊢;exact ⟨ahq bu hk hp hm h.1,Wv bu hk hp hm h.2⟩
end
end
def qY:Nat->aa CT->aa CT
 | 0,c::cs=>c.frz::cs
 | k+1,c::cs=>c::qY k cs
 | _,[]=>[]
theorem ady:∀(k:Nat) (cs:aa CT),(qY k cs).length=cs.length
 | 0,c::cs=>rfl
 | k+1,c::cs=>by simp [qY,ady k cs]
 | 0,[]=>rfl
 | _+1,[]=>rfl
def DK (t k:Nat) (κ:aP):aP:=fun b=>
 match κ b with
 | some (r,m::q)=>if r=t/\m=k then none else some (r,m::q)
 | x=>x
theorem adz {t k:Nat} {κ:aP} {b:Nat} (h:κ b=none):DK t k κ b=none:=by simp [DK,h]
theorem adA {t k:Nat} {κ:aP} {b r:Nat} {q:aa Nat} (h:DK t k κ b=some (r,q)):κ b=some (r,q):=by
 unfold DK at h;split at h
 ·rename_i hk;split at h
  ·cases h
  ·rw [hk];exact h
 ·exact h
theorem Sc {t k:Nat} {κ:aP} {b r:Nat} {q:aa Nat} (h:κ b=some (r,q)) (hr:r≠t\/∀q',q≠k::q'):DK t k κ b=some (r,q):=by
 unfold DK;split
 ·rename_i r' m q' hk;rw [h] at hk;cases hk;rw [if_neg (by rintro ⟨h1,h2⟩;rcases hr with hr|hr<;>first|exact hr h1|exact hr q' (by rw [h2]))]
 ·exact h
mutual
theorem ahr {P:aa Nat->Prop} (h:∀S,P S):∀c:CT,c.allS P
 | .d=>by simp [CT.allS]
 | .sl (.ro S) e=>by simp only [CT.allS];exact ⟨h S,AZ h e⟩
 | .sl (.own _) e=>by simp only [CT.allS];exact AZ h e
 | .sl .dead e=>by simp only [CT.allS];exact AZ h e
theorem AZ {P:aa Nat->Prop} (h:∀S,P S):∀cs:aa CT,CT.allSs P cs
 | []=>by simp [CT.allSs]
 | c::cs=>by simp only [CT.allSs];exact ⟨ahr h c,AZ h cs⟩
end
theorem acf {κ:aP} {w:aB} {t k0:Nat} (S:aa Nat) (b:Nat) (hb:bn κ w S b):bn (DK t k0 κ) w S b:=⟨hb.1,fun r q hq=>hb.2 r q (adA hq)⟩
theorem azx {κ:aP} {t k0:Nat} (b:Nat) (q:aa Nat) (hb:κ b=some (t,q)) (hq:[k0] <+: q):DK t k0 κ b=none:=by
 obtain ⟨q',rfl⟩:=hq;simp [DK,hb]
theorem adB {κ:aP} {w:aB} {t k0:Nat}:∀{cs:aa CT} {j k:Nat} {get:Nat->aj} {as:aa A},k0=j+k->aC κ w cs (t,[]) j get as->aC (DK t k0 κ) w (qY k cs) (t,[]) j get as
 | [],j,k,get,[],_,_=>by cases k<;>simp [aC,qY]
 | [],j,k,get,_::_,_,h=>by simp [aC] at h
 | c::cs,j,k,get,[],_,h=>by simp [aC] at h
 | c::cs,j,0,get,a::as,hj,h=>by
  simp only [qY,aC] at h ⊢;refine ⟨amD acf azx rfl (by simp [Pl.at,hj]) h.1,?_⟩;refine Wh (AZ (fun S b hb=>⟨acf S b hb,Same.refl w b⟩) cs) (fun i hi b q hb => ?_) (fun _ _=>rfl) h.2;refine ⟨?_,Same.refl w b⟩;rw [hb];exact Sc hb (.inr fun q' hq=>by simp only [gX,RV] at hq;omega)
 | c::cs,j,k+1,get,a::as,hj,h=>by
  simp only [qY,aC] at h ⊢;refine ⟨?_,adB (by omega) h.2⟩;refine vV (ahr (fun S b hb=>⟨acf S b hb,Same.refl w b⟩) c) (fun b q hb => ?_) h.1;refine ⟨?_,Same.refl w b⟩;rw [hb];exact Sc hb (.inr fun q' hq=>by simp only [Pl.at,gX,ny,RV] at hq;omega)
def Sg (N:Nat) (g:Nat->TT) (r k:Nat):ah Stp:=
 match g r with
 | .box cs=>if r<N/\gY (qY k cs)=true then some ⟨[(r,.box (qY k cs))],fun T=>T.kill [r] [],[r],.det fun _=>none⟩ else none
 | _=>none
theorem aAP {ac:Nat->Nat->aj} {κ0 κ:aP} {w0 w:aB} {N:Nat} {tg:Nat->TT} {sv:Nat->AV} {tm:Nat->aj} (h:R ac κ0 w0 κ w N tg sv tm) {r k:Nat} {cs:aa CT} (ht:tg r = .box cs) (lT:r<N) (jo:gY (qY k cs)=true) :
  R ac κ0 w0 (DK r k κ) w N (aF (fun u=>(tg u).kill [r] []) [(r,.box (qY k cs))]) sv tm:=by
 refine ul (mods:=[r]) (M:=[]) h ?_ (fun S hS b hb=>⟨⟨hb.1,fun r q hq=>hb.2 r q (adA hq)⟩,Same.refl w b⟩) (fun b r' q hr hb => ?_) (fun r' hr => ?_) (fun _ _=>rfl) (fun _ _=>rfl) (fun u hu => ?_) (fun u hu => ?_) (fun b hb=>adz (h.col b hb)) ?_
 ·have:=h.nle;simp only [cB];omega
 ·simp only [cB] at hr;exact ⟨by rw [hb];exact Sc hb (.inl hr),Same.refl w b⟩
 ·simp only [cB] at hr;left;simp [aF,hr]
 ·simp only [cB] at hu;subst hu;have h1:=h.tr u;rw [ht] at h1;simp only [TR] at h1;obtain ⟨as,b,g1,g2,g3,g4,g5,g6,g7⟩:=h1;simp only [aF,if_true,TR];exact ⟨as,b,g1,g2,g3,Sc g4 (.inr fun q' hq=>by cases hq),by rw [ady];exact g5,gu jo,adB (by omega) g7⟩
 ·have:u≠r:=by omega
  simp only [aF,if_neg this,h.out u hu];rfl
 ·refine ⟨h.fr.size,fun b hb h0 => ?_,h.fr.os,h.fr.out,h.fr.tape⟩;have:=h.fr.kept b hb h0;exact ⟨adz this.1,this.2⟩
def Stp.frzB (r:Nat) (S1 S2:Stp):Stp:=⟨S2.up++S1.up.map (fun p=>(p.1,S2.kl p.2)),fun T=>S2.kl (S1.kl T),r::S2.rd,S2.eff⟩
theorem azy {P:aS} {N:Nat} {g:Nat->TT} {o:bQ} {r k:Nat} {S1 S2:Stp} (h1:Sg N g r k=some S1) (h2:d9 P N o (rY g S1) S2) (hv:∀s v,S2.eff.rel P s v->v.length<=S2.up.length) :
  d9 P N o g (Stp.frzB r S1 S2):=by
 intro ac κ0 κ w0 w tg sv s a v next Q hN hR hL kv bT;simp only [Stp.frzB] at kv;unfold Sg at h1;split at h1;case h_2=>cases h1
 case h_1 cs hT=>
 split at h1;case isFalse=>cases h1
 case isTrue hc=>
 cases h1;obtain ⟨e1,e2⟩:=hL.at hT (by simp);have jq:=aAP (k:=k) hR e1 hc.1 hc.2;have hL':Le (rY g ⟨[(r,.box (qY k cs))],fun T=>T.kill [r] [],[r],.det fun _=>none⟩) s (aF (fun u=>(tg u).kill [r] []) [(r,.box (qY k cs))]) sv:=by
  intro u;simp only [rY,aF];by_cases FO:u=r
  ·right;subst FO;exact ⟨by simp,e2.symm⟩
  ·simp only [if_neg FO];rcases hL u with h3|⟨h3,h4⟩
   ·left;rw [h3];rfl
   ·right;exact ⟨by rw [h3],h4⟩
 refine h2 ac κ0 _ w0 w _ sv s a v next Q hN jq hL' kv fun x w' κ'' tg'' sv'' akE abM abN => ?_
 have Ck:=hv _ _ kv;refine bT x w' κ'' tg'' sv'' akE (fun u => ?_) (fun u => ?_)
 ·rw [abM u];simp only [Stp.frzB];rw [DJ];by_cases hu:u∈S2.up.map (·.1)
  ·exact bN.upds_in hu
  ·rw [bN.upds_out hu,bN.upds_out hu];simp only [aF,bz,bM];split<;>rfl
 ·rw [abN u];simp only [Stp.frzB];have hz:((S2.up++[(r,TT.box (qY k cs))].map fun p=>(p.1,S2.kl p.2)).map (·.1)).zip v=(S2.up.map (·.1)).zip v:=by
   rw [uN];exact Js (by simpa using Ck)
  rw [hz]
def ahs (P:aS) (sigs:FuncId->ah aM) (N:Nat) (fq:Bool) (o:bQ):aa Nat->(Nat->TT)->aa Nat->ah Stp
 | [],g,tk=>acb P sigs N fq o g tk
 | x::xs,g,tk=>match Nat.ble 4000000000 x with
  | true=>match xs,tk with
   | [],[y]=>ace P N g o y
   | _,_=>none
  | false=>match Sg N g (x % 1000000000 / 1000) (x % 1000) with
   | some S1=>match ahs P sigs N fq o xs (rY g S1) tk with
    | some S2=>some (Stp.frzB (x % 1000000000 / 1000) S1 S2)
    | none=>none
   | none=>none
theorem amE {P:aS} {sigs:FuncId->ah aM} {N:Nat} {fq:Bool} {o:bQ}:∀{xs:aa Nat} {g:Nat->TT} {tk:aa Nat} {S:Stp},ahs P sigs N fq o xs g tk=some S ->
  d9 P N o g S/\S.kl .dead = .dead/\∀s v,S.eff.rel P s v->v.length<=S.up.length/\0<v.length
 | [],g,tk,S,h=>acd (by simpa only [ahs] using h)
 | x::xs,g,tk,S,h=>by
  simp only [ahs] at h
  split at h
  case h_1=>
   split at h
   ·exact api h
   ·cases h
  case h_2=>
  split at h
  case h_2=>cases h
  case h_1 S1 h1=>
  split at h
  case h_2=>cases h
  case h_1 S2 h2=>
  cases h
  obtain ⟨k1,k2,k3⟩:=amE h2
  have hk:S1.kl .dead = .dead:=by
   unfold Sg at h1;split at h1
   ·split at h1
    ·cases h1;rfl
    ·cases h1
   ·cases h1
  refine ⟨azy h1 k1 (fun s v hv=>(k3 s v hv).1),by simp only [Stp.frzB];rw [hk,k2],fun s v hv => ?_⟩
  have:=k3 s v hv
  simp only [Stp.frzB,dR]
  omega
end Go.Fw
namespace Go.Fw
structure OpR where
 S:Bool->Stp
 cb:(Nat->AV)->Option Bool
 up:List (Nat × TT)
 d:Option Nat
 gd:Option (Nat × Bool)
 g:Bool->Nat->TT
 XP:List Nat
 pk:Option Nat
def rZ (rs:aa OpR) (i:Nat):aa (Nat × TT):=match rs[i]? with
 | some o=>o.up
 | none=>[]
def A7 (rs:aa OpR) (i:Nat):ah Nat:=match rs[i]? with
 | some o=>o.d
 | none=>none
def bF (rs:aa OpR) (bef:Nat->Nat->Bool) (D0:Nat->TT) (s0:Nat->AV) (np:Nat->Bool) (px:Nat->aj) (wl:aa Bool) (vl:aa (aa AV)):bN:=
 ⟨rs.length,rZ rs,A7 rs,bef,D0,s0,fun i=>wl.getD i false,fun i=>vl.getD i [],np,px⟩
def kT (s:Nat->AV) (t:Nat):ah Bool:=
 match s t with
 | .v [.v (.bool c)] _=>some c
 | _=>none
def nX (rs:aa OpR) (wl:aa Bool) (s:Nat->AV) (o:OpR):Bool:=
 match o.gd with
 | none=>true
 | some (j,b)=>wl.getD j false&&(match A7 rs j with
  | some t=>(match kT s t with
   | some c=>c == b
   | none=>false)
  | none=>false)
def wZ (P:aS) (rs:aa OpR):aa OpR->aa Bool->(Nat->AV)->((Nat->AV)->Prop)->Prop
 | [],_,s,K=>K s
 | o::os,wl,s,K=>if nX rs wl s o then ∃b v,o.cb s=some b/\(o.S b).eff.rel P s v/\wZ P rs os (wl++[true]) (aF s ((o.up.map (·.1)).zip v)) K
  else wZ P rs os (wl++[false]) s K
def allT:Nat->Bool:=fun _=>true
theorem aht {r r':bN} (h0:r.s0=r'.s0) (L:Nat->Bool):∀k,(∀j,j<k->r.up j=r'.up j/\r.wn j=r'.wn j/\(r.wn j=true->r.vv j=r'.vv j))->r.sL L k=r'.sL L k:=by
 intro k;induction k with
 | zero=>intro _;exact h0
 | succ k ih=>
  intro h;have ih:=ih fun j hj=>h j (by omega)
  obtain ⟨h1,h2,h3⟩:=h k (by omega);simp only [bN.sL,bN.sS,ih,h1,h2];cases hw:r'.wn k with
  | false=>rfl
  | true=>rw [h3 (by rw [h2,hw])]
section
variable {P:aS} {rs:aa OpR} {bef:Nat->Nat->Bool} {D0:Nat->TT} {s0:Nat->AV} {np:Nat->Bool} {px:Nat->aj} {K:(Nat->AV)->Prop}
theorem uw {α:Type} {l m:aa α} {j:Nat} {x:α} (h:j<l.length):(l++m).getD j x=l.getD j x:=by
 simp only [dw,rQ h]
theorem amF (BG:∀(i:Nat) (o:OpR) (j:Nat) (b:Bool),rs[i]?=some o->o.gd=some (j,b)->j<i):∀{os pre:aa OpR} {wl:aa Bool} {vl:aa (aa AV)},rs=pre++os->wl.length=pre.length->vl.length=pre.length ->
  wZ P rs os wl ((bF rs bef D0 s0 np px wl vl).sL allT pre.length) K ->
  ∃wl' vl',(∀j,j<pre.length->wl'.getD j false=wl.getD j false/\vl'.getD j []=vl.getD j [])/\K ((bF rs bef D0 s0 np px wl' vl').sL allT rs.length) /\
   ∀i o,pre.length<=i->rs[i]?=some o->wl'.getD i false=nX rs wl' ((bF rs bef D0 s0 np px wl' vl').sL allT i) o /\
    (wl'.getD i false=true->∃b,o.cb ((bF rs bef D0 s0 np px wl' vl').sL allT i)=some b/\(o.S b).eff.rel P ((bF rs bef D0 s0 np px wl' vl').sL allT i) (vl'.getD i []))
 | [],pre,wl,vl,lG,h1,h2,h=>by
  simp only [nz] at lG
  refine ⟨wl,vl,fun j _=>⟨rfl,rfl⟩,?_,fun i o hi ho => ?_⟩
  ·simp only [wZ] at h
   rw [show rs.length=pre.length from by rw [lG]];exact h
  ·have:=(bf ho).1
   rw [lG] at this;omega
 | o::os,pre,wl,vl,lG,h1,h2,h=>by
  have ho:rs[pre.length]?=some o:=by rw [lG];simp
  have nk:rZ rs pre.length=o.up:=by unfold rZ;rw [ho]
  -- one more
  have step:∀(x:Bool) (v:aa AV),wZ P rs os (wl++[x]) ((bF rs bef D0 s0 np px (wl++[x]) (vl++[v])).sL allT (pre++[o]).length) K ->
    (x=nX rs wl ((bF rs bef D0 s0 np px wl vl).sL allT pre.length) o)->(x=true->∃b,o.cb ((bF rs bef D0 s0 np px wl vl).sL allT pre.length)=some b/\(o.S b).eff.rel P ((bF rs bef D0 s0 np px wl vl).sL allT pre.length) v) ->
    ∃wl' vl',(∀j,j<pre.length->wl'.getD j false=wl.getD j false/\vl'.getD j []=vl.getD j [])/\K ((bF rs bef D0 s0 np px wl' vl').sL allT rs.length) /\
     ∀i o,pre.length<=i->rs[i]?=some o->wl'.getD i false=nX rs wl' ((bF rs bef D0 s0 np px wl' vl').sL allT i) o /\
      (wl'.getD i false=true->∃b,o.cb ((bF rs bef D0 s0 np px wl' vl').sL allT i)=some b/\(o.S b).eff.rel P ((bF rs bef D0 s0 np px wl' vl').sL allT i) (vl'.getD i [])):=by
   intro x v hW hx hv;obtain ⟨wl',vl',k1,k2,k3⟩:=amF BG (os:=os) (pre:=pre++[o]) (wl:=wl++[x]) (vl:=vl++[v]) (by rw [lG];simp) (by simp [h1]) (by simp [h2]) hW;have gQ:∀j,j<pre.length->wl'.getD j false=wl.getD j false/\vl'.getD j []=vl.getD j []:=fun j hj=>by
    obtain ⟨g1,g2⟩:=k1 j (by simp;omega);rw [uw (by omega)] at g1 g2;exact ⟨g1,g2⟩
   refine ⟨wl',vl',gQ,k2,fun i o' hi oq => ?_⟩;by_cases hii:i=pre.length
   ·subst hii;rw [ho] at oq;cases oq;have hs:(bF rs bef D0 s0 np px wl' vl').sL allT pre.length=(bF rs bef D0 s0 np px wl vl).sL allT pre.length:=aht (r:=bF rs bef D0 s0 np px wl' vl') (r':=bF rs bef D0 s0 np px wl vl) rfl allT pre.length fun j hj=>⟨rfl,(gQ j hj).1,fun _=>(gQ j hj).2⟩
    obtain ⟨g1,g2⟩:=k1 pre.length (by simp);have e1:(wl++[x]).getD pre.length false=x:=by rw [<-h1];simp [dw]
    have e2:(vl++[v]).getD pre.length []=v:=by rw [<-h2];simp [dw]
    rw [e1] at g1;rw [e2] at g2;rw [hs,g1,g2];refine ⟨?_,hv⟩;rw [hx];unfold nX;cases hg:o.gd with
    | none=>rfl
    | some p=>
     obtain ⟨j,b⟩:=p;have:=BG _ _ _ _ ho hg;simp only;rw [(gQ j this).1]
   ·exact k3 i o' (by simp;omega) oq
  simp only [wZ] at h
  split at h
  ·rename_i hw
   obtain ⟨b,v,hb,kv,hW⟩:=h
   refine step true v ?_ hw.symm fun _=>⟨b,hb,kv⟩
   have:(bF rs bef D0 s0 np px (wl++[true]) (vl++[v])).sL allT (pre++[o]).length=aF ((bF rs bef D0 s0 np px wl vl).sL allT pre.length) ((o.up.map (·.1)).zip v):=by
    rw [dR,Kq]
    simp only [bN.sL,allT,if_true]
    have hs:(bF rs bef D0 s0 np px (wl++[true]) (vl++[v])).sL allT pre.length=(bF rs bef D0 s0 np px wl vl).sL allT pre.length:=aht (r:=bF rs bef D0 s0 np px (wl++[true]) (vl++[v])) (r':=bF rs bef D0 s0 np px wl vl) rfl _ pre.length fun j hj=>⟨rfl,uw (by omega),fun _=>uw (by omega)⟩
    rw [hs]
    unfold bN.sS
    have e1:(wl++[true]).getD pre.length false=true:=by rw [<-h1];simp [dw]
    have e2:(vl++[v]).getD pre.length []=v:=by rw [<-h2];simp [dw]
    simp only [bF,e1,e2,nk,if_true]
   rw [this];exact hW
  ·rename_i hw
   refine step false [] ?_ (by simpa using hw) fun hx=>by cases hx
   have:(bF rs bef D0 s0 np px (wl++[false]) (vl++[[]])).sL allT (pre++[o]).length=(bF rs bef D0 s0 np px wl vl).sL allT pre.length:=by
    rw [dR,Kq]
    simp only [bN.sL,allT,if_true]
    have hs:(bF rs bef D0 s0 np px (wl++[false]) (vl++[[]])).sL allT pre.length=(bF rs bef D0 s0 np px wl vl).sL allT pre.length:=aht (r:=bF rs bef D0 s0 np px (wl++[false]) (vl++[[]])) (r':=bF rs bef D0 s0 np px wl vl) rfl _ pre.length fun j hj=>⟨rfl,uw (by omega),fun _=>uw (by omega)⟩
    rw [hs]
    unfold bN.sS
    have e1:(wl++[false]).getD pre.length false=false:=by rw [<-h1];simp [dw]
    simp only [bF,e1,iP,if_false]
   rw [this];exact h
end
end Go.Fw
namespace Go.Fw
def agw (a b:Sk):Bool:=decide (a=b)
def TT.beq:TT->TT->Bool
 | .dead,.dead=>true
 | .val a c,.val a' c'=>(a == a')&&CT.beqs c c'
 | .alias a c r sk off S,.alias a' c' r' sk' off' S'=>(a == a')&&CT.beqs c c'&&(r == r')&&agw sk sk'&&(off == off')&&decide (S=S')
 | .box c,.box c'=>CT.beqs c c'
 | .ptr r sk off S,.ptr r' sk' off' S'=>(r == r')&&agw sk sk'&&(off == off')&&decide (S=S')
 | .tup ws c,.tup ws' c'=>decide (ws=ws')&&CT.beqs c c'
 | _,_=>false
theorem TT.beq_eq:∀{T T':TT},T.beq T'=true->T=T'
 | .dead,T',h=>by cases T'<;>simp [TT.beq] at h;rfl
 | .val a c,T',h=>by
  cases T'<;>simp [TT.beq] at h;rw [h.1,CT.beqs_eq h.2]
 | .alias a c r sk off S,T',h=>by
  cases T'<;>simp [TT.beq,agw] at h;obtain ⟨⟨⟨⟨⟨h1,h2⟩,h3⟩,h4⟩,h5⟩,h6⟩:=h;rw [h1,CT.beqs_eq h2,h3,h4,h5,h6]
 | .box c,T',h=>by
  cases T'<;>simp [TT.beq] at h;rw [CT.beqs_eq h]
 | .ptr r sk off S,T',h=>by
  cases T'<;>simp [TT.beq,agw] at h;obtain ⟨⟨⟨h3,h4⟩,h5⟩,h6⟩:=h;rw [h3,h4,h5,h6]
 | .tup ws c,T',h=>by
  cases T'<;>simp [TT.beq] at h;rw [h.1,CT.beqs_eq h.2]
def okg (ch:aa (Nat × Bool)):ah (Nat × Bool)->Bool
 | none=>true
 | some p=>ch.contains p
def Jv (D0:Nat->TT) (ch:aa (Nat × Bool)):aa OpR->Nat->TT
 | [],t=>D0 t
 | o::rest,t=>if (o.up.map (·.1)).contains t then (if okg ch o.gd then aF (fun _=>.dead) o.up t else if o.d != some t&&(aF (fun _=>.dead) o.up t).beq (Jv D0 ch rest t) then Jv D0 ch rest t else .dead) else if o.d == some t then .dead else Jv D0 ch rest t
def chR (rs:aa OpR):Nat->ah (Nat × Bool)->aa (Nat × Bool)
 | 0,_=>[]
 | _+1,none=>[]
 | f+1,some (j,b)=>(j,b)::(match rs[rs.length-1-j]? with
  | some o=>chR rs f o.gd
  | none=>[])
section
variable {D0:Nat->TT} {s0:Nat->AV} {np:Nat->Bool} {px:Nat->aj} {bef:Nat->Nat->Bool} {wl:aa Bool} {vl:aa (aa AV)} {rs:aa OpR}
theorem adC {f:Nat->TT} {l:aa (Nat × TT)} {t:Nat} (h:t∈l.map (·.1)):aF f l t=aF (fun _=>.dead) l t:=bN.upds_in h
theorem ahu {ch:aa (Nat × Bool)} {L:Nat->Bool}:∀{pre:aa OpR} {post:aa OpR},rs=pre.reverse++post->(∀j,j<pre.length->L j=true) ->
  (∀j o,j<pre.length->rs[j]?=some o->okg ch o.gd=true->wl.getD j false=true)->∀t,Jv D0 ch pre t = .dead\/Jv D0 ch pre t=(bF rs bef D0 s0 np px wl vl).dL L pre.length t
 | [],post,lG,hL,hw,t=>by right;simp [Jv,bN.dL,bF]
 | o::pre,post,lG,hL,hw,t=>by
  have ho:rs[pre.length]?=some o:=by
   rw [lG];simp
  have nk:rZ rs pre.length=o.up:=by unfold rZ;rw [ho]
  have hd:A7 rs pre.length=o.d:=by unfold A7;rw [ho]
  have ih:=ahu (pre:=pre) (post:=o::post) (ch:=ch) (L:=L) (by rw [lG];simp) (fun j hj=>hL j (by simp;omega)) (fun j o' hj=>hw j o' (by simp;omega)) t
  simp only [Jv,bI,bN.dL]
  rw [hL pre.length (by simp),if_pos rfl]
  have hds:∀f,(bF rs bef D0 s0 np px wl vl).dS pre.length f t=if wl.getD pre.length false then aF f o.up t else if o.d=some t then .dead else f t:=by
   intro f
   unfold bN.dS
   rw [show (bF rs bef D0 s0 np px wl vl).up pre.length=o.up from nk,show (bF rs bef D0 s0 np px wl vl).dst pre.length=o.d from hd]
   by_cases hwl:wl.getD pre.length false=true
   ·rw [if_pos hwl,if_pos (show (bF rs bef D0 s0 np px wl vl).wn pre.length=true from hwl)]
   ·rw [if_neg hwl,if_neg (show ¬(bF rs bef D0 s0 np px wl vl).wn pre.length=true from hwl)]
  rw [hds]
  by_cases hm:(o.up.map (·.1)).contains t=true
  ·rw [if_pos hm]
   by_cases hg:okg ch o.gd=true
   ·rw [if_pos hg,hw pre.length o (by simp) ho hg,if_pos rfl]
    right
    exact (adC (by simpa using hm)).symm
   ·rw [if_neg hg]
    split
    ·rename_i hc
     simp only [aU,bne_iff_ne,ne_eq] at hc
     have hbe:=TT.beq_eq hc.2
     cases hwl:wl.getD pre.length false with
     | true=>
      right
      rw [if_pos rfl,adC (by simpa using hm),hbe]
     | false=>
      rw [if_neg (by simp),if_neg hc.1]
      exact ih
    ·exact .inl rfl
  ·rw [if_neg hm]
   by_cases yQ:o.d=some t
   ·rw [if_pos (by simpa using yQ)];exact .inl rfl
   ·rw [if_neg (by simpa using yQ)]
    have NN:t∉o.up.map (·.1):=by simpa using hm
    rw [bN.upds_out NN,if_neg yQ]
    split
    ·exact ih
    ·exact ih
end
def idxOf (c:Nat):aa OpR->ah Nat
 | []=>none
 | o::rest=>if o.d == some c then some rest.length else idxOf c rest
def KO (d c:Nat) (X Y:DX) (b:Bool):Stp:=
 Stp.set d (.val false [.d]) [] (.det fun s=>match kT s c with
  | some v=>if v=b then (match (if b then X else Y).get s with
   | some v=>some [.v [.v v] []]
   | none=>none) else none
  | none=>none)
def alv (D0l:aa TT):aa (TT × Nat):=D0l.zipIdx.filter fun p=>!p.1.isDead
def axw (D0l:aa TT) (rs:aa OpR) (dom:aa Nat) (kl:TT->TT) (beq:TT->TT->Bool):aa Nat:=
 ((alv D0l).filterMap fun p=>if dom.contains p.2 || beq (kl p.1) p.1 then none else some p.2) ++
 rs.flatMap fun o=>o.up.filterMap fun p=>if dom.contains p.1 || beq (kl p.2) p.2 then none else some p.1
structure Hint where
 al:Bool
 tk:List Nat
 hd:List Nat
def DL (P:aS) (sigs:FuncId->ah aM) (N:Nat) (D0l:aa TT) (rs:aa OpR) (XP:aa Nat) (h:Hint) (o:bQ):ah OpR:=
 let ch:=chR rs (rs.length+1) o.guard
 let g:=fun t=>if XP.contains t then .dead else Jv (gt D0l) ch rs t
 match o.op,o.dst with
 | .pick (.tmp c) x y,some d=>
  let chb:=fun b:Bool=>match idxOf c rs with
   | some j=>(match rs[rs.length-1-j]? with
    | some oj=>if okg ch oj.gd then (j,b)::ch else ch
    | none=>ch)
   | none=>ch
  let gb:=fun b:Bool=>fun t=>if XP.contains t then TT.dead else Jv (gt D0l) (chb b) rs t
  match nW (gb true) x,nW (gb false) y,nW (gb true) (.tmp c),nW (gb false) (.tmp c) with
  | some X,some Y,some _,some _=>if d<N then
    let S:=KO d c X Y
    let ks:=axw D0l rs [d] (S true).kl TT.beq
    some ⟨S,fun s=>kT s c,(S true).up++ks.map (fun t=>(t,.dead)),some d,o.guard,gb,XP,some c⟩ else none
  | _,_,_,_=>none
 | _,_=>match ahs P sigs N h.al o (h.hd.filter fun x=>Nat.ble 3000000000 x) g h.tk with
  | some S=>
   let ks:=axw D0l rs (S.up.map (·.1)) S.kl TT.beq
   some ⟨fun _=>S,fun _=>some true,S.up++ks.map (fun t=>(t,.dead)),o.dst,o.guard,fun _=>g,XP,none⟩
  | none=>none
end Go.Fw
namespace Go.Fw
section
variable {α:Type}
def fN (n:Nat) (k:Nat->α):α:=match n with
 | 0=>k 0
 | m+1=>k (m+1)
theorem w9 (n:Nat) (k:Nat->α):fN n k=k n:=by cases n<;>rfl
def fB (b:Bool) (k:Bool->α):α:=match b with
 | true=>k true
 | false=>k false
theorem apj (b:Bool) (k:Bool->α):fB b k=k b:=by cases b<;>rfl
def fL {β:Type} (f:β->(β->α)->α):aa β->(aa β->α)->α
 | [],k=>k []
 | x::l,k=>f x fun x=>fL f l fun l=>k (x::l)
theorem Cy {β:Type} {f:β->(β->α)->α} (hf:∀x k,f x k=k x):∀(l:aa β) (k:aa β->α),fL f l k=k l
 | [],k=>rfl
 | x::l,k=>by rw [fL,hf,Cy hf l]
def fP (p:Nat × Nat) (k:Nat × Nat->α):α:=fN p.1 fun a=>fN p.2 fun b=>k (a,b)
theorem apk (p:Nat × Nat) (k:Nat × Nat->α):fP p k=k p:=by unfold fP;rw [w9,w9]
def fW (p:Bool × Nat) (k:Bool × Nat->α):α:=fB p.1 fun a=>fN p.2 fun b=>k (a,b)
theorem aDB (p:Bool × Nat) (k:Bool × Nat->α):fW p k=k p:=by unfold fW;rw [apj,w9]
def fMd:Md->(Md->α)->α
 | .own none,k=>k (.own none)
 | .own (some p),k=>fP p fun p=>k (.own (some p))
 | .ro S,k=>fL fN S fun S=>k (.ro S)
 | .dead,k=>k .dead
theorem aAQ (m:Md) (k:Md->α):fMd m k=k m:=by
 cases m with
 | own p=>cases p with
  | none=>rfl
  | some p=>rw [fMd,apk]
 | ro S=>rw [fMd,Cy w9]
 | dead=>rfl
mutual
def fC:CT->(CT->α)->α
 | .d,k=>k .d
 | .sl m e,k=>fMd m fun m=>fCs e fun e=>k (.sl m e)
def fCs:aa CT->(aa CT->α)->α
 | [],k=>k []
 | c::cs,k=>fC c fun c=>fCs cs fun cs=>k (c::cs)
end
mutual
theorem aDC:∀(c:CT) (k:CT->α),fC c k=k c
 | .d,k=>rfl
 | .sl m e,k=>by rw [fC,aAQ,Jw e]
theorem Jw:∀(c:aa CT) (k:aa CT->α),fCs c k=k c
 | [],k=>rfl
 | c::cs,k=>by rw [fCs,aDC c,Jw cs]
end
def fT:TT->(TT->α)->α
 | .dead,k=>k .dead
 | .val ag cs,k=>fB ag fun ag=>fCs cs fun cs=>k (.val ag cs)
 | .alias ag cs r sk off S,k=>fB ag fun ag=>fCs cs fun cs=>fN r fun r=>fL fP sk fun sk=>fN off fun off=>fL fN S fun S=>k (.alias ag cs r sk off S)
 | .box cs,k=>fCs cs fun cs=>k (.box cs)
 | .ptr r sk off S,k=>fN r fun r=>fL fP sk fun sk=>fN off fun off=>fL fN S fun S=>k (.ptr r sk off S)
 | .tup ws cs,k=>fL fW ws fun ws=>fCs cs fun cs=>k (.tup ws cs)
theorem axy (T:TT) (k:TT->α):fT T k=k T:=by
 cases T with
 | dead=>rfl
 | val ag cs=>rw [fT,apj,Jw]
 | alias ag cs r sk off S=>rw [fT,apj,Jw,w9,Cy apk,w9,Cy w9]
 | box cs=>rw [fT,Jw]
 | ptr r sk off S=>rw [fT,w9,Cy apk,w9,Cy w9]
 | tup ws cs=>rw [fT,Cy aDB,Jw]
def fTs (l:aa TT) (k:aa TT->α):α:=fL fT l k
theorem asC (l:aa TT) (k:aa TT->α):fTs l k=k l:=Cy axy l k
def fU (p:Nat × TT) (k:Nat × TT->α):α:=fN p.1 fun a=>fT p.2 fun b=>k (a,b)
theorem aDD (p:Nat × TT) (k:Nat × TT->α):fU p k=k p:=by unfold fU;rw [w9,axy]
def fUp (l:aa (Nat × TT)) (k:aa (Nat × TT)->α):α:=fL fU l k
theorem aAS (l:aa (Nat × TT)) (k:aa (Nat × TT)->α):fUp l k=k l:=Cy aDD l k
end
end Go.Fw
namespace Go.Fw
def nY (P:aS) (sigs:FuncId->ah aM) (N:Nat) (D0l:aa TT) (jI:Nat->aa Nat) (nA:aa Hint):Nat->aa bQ->aa OpR->ah (aa OpR)
 | _,[],rs=>some rs.reverse
 | i,o::os,rs=>match DL P sigs N D0l rs (jI i) (nA.getD i ⟨false,[],[]⟩) o with
  | some x=>fUp x.up fun up=>nY P sigs N D0l jI nA (i+1) os ({ x with up:=up }::rs)
  | none=>none
def uj (rs:aa OpR) (i:Nat):aa Nat:=(rZ rs i).map (·.1)++(A7 rs i).toList
theorem adE {P:aS} {sigs:FuncId->ah aM} {N:Nat} {D0l:aa TT} {jI:Nat->aa Nat} {nA:aa Hint}:∀{os:aa bQ} {rs0 rs:aa OpR} {i:Nat},nY P sigs N D0l jI nA i os rs0=some rs->rs0.length=i ->
  rs.length=i+os.length/\(∃post,rs=rs0.reverse++post)/\∀k o,os[k]?=some o->∃x,rs[i+k]?=some x/\DL P sigs N D0l ((rs.take (i+k)).reverse) (jI (i+k)) (nA.getD (i+k) ⟨false,[],[]⟩) o=some x
 | [],rs0,rs,i,h,hl=>by
  simp only [nY,aO] at h
  subst h
  exact ⟨by simp [hl],⟨[],by simp⟩,fun k o hk=>by simp at hk⟩
 | o::os,rs0,rs,i,h,hl=>by
  simp only [nY] at h
  split at h
  case h_2=>cases h
  case h_1 x hx=>
  rw [aAS] at h
  have h:nY P sigs N D0l jI nA (i+1) os (x::rs0)=some rs:=h
  obtain ⟨k1,⟨post,k2⟩,k3⟩:=adE h (by simp [hl])
  refine ⟨by simp only [bI];omega,⟨x::post,by rw [k2];simp⟩,fun k o' hk => ?_⟩
  cases k with
  | zero=>
   simp at hk
   subst hk
   refine ⟨x,?_,?_⟩
   ·rw [k2];simp [<-hl]
   ·have:(rs.take (i+0)).reverse=rs0:=by
     rw [k2,qd,<-hl];simp
    rw [this];exact hx
  | succ k=>
   obtain ⟨x',g1,g2⟩:=k3 k o' (by simpa using hk)
   rw [show i+1+k=i+(k+1) from by omega] at g1 g2
   exact ⟨x',g1,g2⟩
structure apl (P:Program) (N:Nat) (o:Oper) (x:OpR):Prop where
 ok:∀b,d9 P N o (x.g b) (x.S b)
 kl:∀b,(x.S b).kl=(x.S true).kl
 sup:∀b,(x.S b).up=(x.S true).up
 up:∃ks:List Nat,x.up=(x.S true).up++ks.map fun t=>(t,.dead)
 d:x.d=o.dst
 gd:x.gd=o.guard
 kd:(x.S true).kl .dead = .dead
 vl:∀b s v,(x.S b).eff.rel P s v->v.length<=(x.S b).up.length/\0<v.length
theorem amI {P:aS} {N:Nat} {g:Nat->TT} {o:bQ} {d c:Nat} {x y:iN} {X Y:DX} {b:Bool} (ho:o.op = .pick (.tmp c) x y) (hd:o.dst=some d) (hdN:d<N) (hx:nW g (if b then x else y)=some (if b then X else Y)) {C:DX}
  (hc:nW g (.tmp c)=some C):d9 P N o g (KO d c X Y b):=by
 intro ac κ0 κ w0 w tg sv s a v next Q hN hR hL hv bT;simp only [KO,Stp.set,Eff.rel] at hv;split at hv;case h_2=>cases hv
 case h_1 cv hcv=>
 split at hv;case isFalse=>cases hv
 case isTrue hcb=>
 subst hcb;split at hv;case h_2=>cases hv
 case h_1 y' hy=>
 cases hv;obtain ⟨e1,e2⟩:=u_ hR hL hx hy;have hC:C = .t c:=by
  simp only [nW] at hc;split at hc
  ·cases hc;rfl
  ·cases hc
 subst hC;obtain ⟨e3,_⟩:=u_ hR hL hc (v:=.bool cv) (by
  simp only [DX.get]
  unfold kT at hcv
  split at hcv
  ·rename_i c' is hs;cases hcv;rw [hs]
  ·cases hcv)
 refine jc hd hN hdN (w':=w) (x:=y') ?_ (Ya hR hdN e2 (Grows.refl w)) bT;unfold execOp;rw [ho];simp only [e3];cases cv with
 | true=>simp only [if_true] at e1;simp only [e1];rfl
 | false=>simp only [iP,if_false] at e1;simp only [e1];rfl
theorem adF {P:aS} {sigs:FuncId->ah aM} {N:Nat} {D0l:aa TT} {rs:aa OpR} {XP:aa Nat} {h:Hint} {o:bQ} {x:OpR} (hx:DL P sigs N D0l rs XP h o=some x):apl P N o x:=by
 unfold DL at hx;simp only at hx;split at hx
 ·rename_i c xx yy d lU hd;split at hx;case h_2=>cases hx
  case h_1 X Y C1 C2 hX hY hC1 hC2=>
  split at hx;case isFalse=>cases hx
  case isTrue hdN=>
  cases hx;refine ⟨fun b => ?_,fun b=>rfl,fun b=>rfl,⟨_,rfl⟩,hd.symm,rfl,rfl,fun b s v hv => ?_⟩
  ·cases b with
   | true=>exact amI lU hd hdN hX hC1
   | false=>exact amI lU hd hdN hY hC2
  ·simp only [KO,Stp.set,Eff.rel] at hv ⊢;repeat' split at hv
   all_goals first
    | (cases hv;simp)
    | cases hv
 ·split at hx;case h_2=>cases hx
  case h_1 S hS=>
  cases hx;obtain ⟨k1,k2,k3⟩:=amE hS;exact ⟨fun b=>k1,fun b=>rfl,fun b=>rfl,⟨_,rfl⟩,rfl,rfl,k2,fun b s v hv=>k3 s v hv⟩
def vo (np:Nat->Bool) (N:Nat) (D0l:aa TT) (rs:aa OpR) (bef:Nat->Nat->Bool) (jI:Nat->aa Nat):Bool:=
 (List.range rs.length).all fun i=>match rs[i]? with
  | none=>false
  | some o=>
   ((List.range rs.length).all fun j=>(j == i) || bef i j || bef j i || ((uj rs j).all fun t=>(jI i).contains t && !(uj rs i).contains t)) &&
   ((List.range rs.length).all fun j=>(j == i) || bef i j || ((rZ rs j).all fun p=>(o.up.map (·.1)).contains p.1 || ((o.S true).kl p.2).beq p.2)) &&
   ((alv D0l).all fun p=>(o.up.map (·.1)).contains p.2 || ((o.S true).kl p.1).beq p.1) &&
   (match o.d with
    | some d=>decide (d<N) && !np d
    | none=>true) &&
   (match o.gd with
    | none=>true
    | some (j,_)=>bef j i&&decide (j<i)&&(match A7 rs j with
      | some t=>((List.range rs.length).all fun k=>(k == j) || !(uj rs k).contains t)&&((rZ rs j).map (·.1)).contains t&&(aF (fun _=>TT.dead) (rZ rs j) t).beq (.val false [.d])
      | none=>false) &&
     (match o.d with
      | some d=>((alv D0l).all fun p=>(p.2 == d) || (p.1.kill [d] []).beq p.1)&&((List.range rs.length).all fun j=>(j == i) || bef i j || ((rZ rs j).all fun p=>(p.1 == d) || (p.2.kill [d] []).beq p.2))
      | none=>true)) &&
   ([true,false].all fun b=>((o.S b).up.drop 1).all fun p=>p.2.isDead || !(o.g b p.1).isDead) &&
   (match o.pk with
    | some c=>Nat.ble ((List.range rs.length).filter fun k=>(uj rs k).contains c).length 1
    | none=>true)
end Go.Fw
namespace Go.Fw
theorem aAT {r:bN} {L:Nat->Bool} {j t:Nat} (hj:j<r.n) (hL:L j=true) (hw:r.wn j=true) (ht:t∈(r.up j).map (·.1)) (ho:∀k,k<r.n->r.Wd k t->k=j) :
  ∀k,j<k->k<=r.n->r.dL L k t=aF (fun _=>.dead) (r.up j) t:=by
 intro k;induction k with
 | zero=>intro h;omega
 | succ k ih=>
  intro h1 h2;simp only [bN.dL];by_cases hkj:k=j
  ·subst hkj;rw [hL,if_pos rfl];unfold bN.dS;rw [hw,if_pos rfl];exact bN.upds_in ht
  ·have hn:¬r.Wd k t:=fun wG=>hkj (ho k (by omega) wG)
   have:=ih (by omega) (by omega);split
   ·rw [bN.dS_out hn];exact this
   ·exact this
theorem asD {r:bN} {L:Nat->Bool} {j t:Nat} (ho:∀k,k<r.n->r.Wd k t->k=j):∀k,j<k->k<=r.n->r.sL L k t=r.sL L (j+1) t:=by
 intro k;induction k with
 | zero=>intro h;omega
 | succ k ih=>
  intro h1 h2;by_cases hkj:k=j
  ·rw [hkj]
  ·have hn:¬r.Wd k t:=fun wG=>hkj (ho k (by omega) wG)
   have:=ih (by omega) (by omega);simp only [bN.sL];split
   ·rw [bN.sS_out hn];exact this
   ·exact this
theorem apm {r:bN} {k i:Nat} (h:k<=i):r.sL (bN.lt i) k=r.sL allT k:=bN.sL_congr k fun j hj=>by simp [bN.lt,allT];omega
theorem amJ {D0l:aa TT} {t:Nat} {T:TT} (hT:D0l[t]?=some T) (Hy:T≠.dead):(T,t)∈alv D0l:=by
 unfold alv;rw [jQ,List.mem_zipIdx_iff_getElem?];refine ⟨hT,?_⟩;cases T<;>first|exact absurd rfl Hy|rfl
section
variable {P:aS} {sigs:FuncId->ah aM} {N:Nat} {D0l:aa TT} {jI:Nat->aa Nat} {nA:aa Hint} {l:aa bQ} {rs:aa OpR} {bef:Nat->Nat->Bool} {s0:Nat->AV} {np:Nat->Bool} {px:Nat->aj} {wl:aa Bool} {vl:aa (aa AV)}
theorem oN (aV:vo np N D0l rs bef jI=true) {i:Nat} {o:OpR} (ho:rs[i]?=some o) :
  (∀j,j<rs.length->j≠i->bef i j=false->bef j i=false->∀t,t∈uj rs j->t∈jI i/\t∉uj rs i) /\
  (∀j,j<rs.length->j≠i->bef i j=false->∀t T,(t,T)∈rZ rs j->t∉o.up.map (·.1)->(o.S true).kl T=T) /\
  (∀t T,D0l[t]?=some T->T≠.dead->t∉o.up.map (·.1)->(o.S true).kl T=T)/\(∀d,o.d=some d->d<N/\np d=false) /\
  (∀j b,o.gd=some (j,b)->bef j i=true/\j<i/\(∃t,A7 rs j=some t/\(∀k,k<rs.length->t∈uj rs k->k=j)/\t∈(rZ rs j).map (·.1)/\aF (fun _=>TT.dead) (rZ rs j) t = .val false [.d]) /\
   ∀d,o.d=some d->(∀t T,D0l[t]?=some T->t≠d->T.kill [d] []=T)/\∀k,k<rs.length->k≠i->bef i k=false->∀t T,(t,T)∈rZ rs k->t≠d->T.kill [d] []=T) /\
  (∀b p,p∈(o.S b).up.drop 1->p.2 = .dead\/o.g b p.1≠.dead) /\
  (∀c,o.pk=some c->∀k k',k<rs.length->k'<rs.length->c∈uj rs k->c∈uj rs k'->k=k'):=by
 have hi:=(bf ho).1;unfold vo at aV;rw [bX] at aV;have h:=aV i (jg.2 hi);rw [ho] at h;simp only [aU] at h;obtain ⟨⟨⟨⟨⟨⟨h1,h2⟩,h3⟩,h4⟩,h5⟩,h6⟩,h7⟩:=h;refine ⟨fun j hj iA V3 wH t ht => ?_,fun j hj iA V3 t T hT ht => ?_,fun t T hT Hy ht => ?_,fun d hd => ?_,fun j b hg => ?_,fun b p hp => ?_,fun c hc k k' hk om Hz aGm => ?_⟩
 ·have:=(bX.1 h1) j (jg.2 hj);simp only [V3,wH,Bool.or_false,iE,beq_iff_eq] at this;have:=(bX.1 (this.resolve_left iA)) t ht;simpa using this
 ·have:=(bX.1 h2) j (jg.2 hj);simp only [V3,Bool.or_false,iE,beq_iff_eq] at this;have:=(bX.1 (this.resolve_left iA)) (t,T) hT;simp only [iE] at this;rcases this with h|h
  ·exact absurd (by simpa using h) ht
  ·exact TT.beq_eq h
 ·have hm:(T,t)∈alv D0l:=amJ hT Hy;have:=(bX.1 h3) (T,t) hm;simp only [iE] at this;rcases this with h|h
  ·exact absurd (by simpa using h) ht
  ·exact TT.beq_eq h
 ·rw [hd] at h4;simpa using h4
 ·rw [hg] at h5;simp only [aU,decide_eq_true_eq] at h5;obtain ⟨⟨⟨g1,g2⟩,g3⟩,g4⟩:=h5;refine ⟨g1,g2,?_,fun d hd => ?_⟩
  ·split at g3
   ·rename_i t ht;simp only [aU] at g3;obtain ⟨⟨g5,g6⟩,g7⟩:=g3;refine ⟨t,ht,fun k hk hkt => ?_,by simpa using g6,TT.beq_eq g7⟩;have:=(bX.1 g5) k (jg.2 hk);simp only [iE,beq_iff_eq,sV] at this;rcases this with h|h
    ·exact h
    ·simp at h;exact absurd hkt h
   ·cases g3
  ·rw [hd] at g4;simp only [aU] at g4;refine ⟨fun t T hT ht => ?_,fun k hk Hr hb t T hT ht => ?_⟩
   ·by_cases Hy:T = .dead
    ·subst Hy;rfl
    have hm:(T,t)∈alv D0l:=amJ hT Hy;have:=(bX.1 g4.1) (T,t) hm;simp only [iE,beq_iff_eq] at this;exact TT.beq_eq (this.resolve_left ht)
   ·have:=(bX.1 g4.2) k (jg.2 hk);simp only [hb,Bool.or_false,iE,beq_iff_eq] at this;have:=(bX.1 (this.resolve_left Hr)) (t,T) hT;simp only [iE,beq_iff_eq] at this;exact TT.beq_eq (this.resolve_left ht)
 ·have:=(bX.1 h6) b (by cases b<;>simp);have:=(bX.1 this) p hp;simp only [iE,sV] at this;rcases this with h|h
  ·exact .inl (F7 h)
  ·right;intro he;rw [he] at h;simp [TT.isDead] at h
 ·rw [hc] at h7;have h8:=Nat.le_of_ble_eq_true h7;have m1:k∈(List.range rs.length).filter fun k=>(uj rs k).contains c:=jQ.2 ⟨jg.2 hk,by simpa using Hz⟩
  have m2:k'∈(List.range rs.length).filter fun k=>(uj rs k).contains c:=jQ.2 ⟨jg.2 om,by simpa using aGm⟩
  generalize (List.range rs.length).filter (fun k=>(uj rs k).contains c)=l at h8 m1 m2;match l,h8,m1,m2 with
  | [x],_,m1,m2=>
   rw [cB] at m1 m2;rw [m1,m2]
end
end Go.Fw
