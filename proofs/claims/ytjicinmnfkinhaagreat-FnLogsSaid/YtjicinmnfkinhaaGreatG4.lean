/- A way of showing what a function computes: the blocks of the heap are owned by the places that kg them; this is a part of it. No conditions. -/
import Derived.Test.YtjicinmnfkinhaaGreatG3
set_option linter.unusedSectionVars false
namespace Go.Fw
def zJ (i:Nat):Nat->aa CT->aa CT->Bool
 | _,[],[]=>true
 | k,_::cu,.d::cs=>zJ i (k+1) cu cs
 | k,.sl (.own (some (j,kk))) e::cu,.sl (.own p) e'::cs=>(j == i)&&(kk == k)&&Cs [.sl (.own (some (j,kk))) e] [.sl (.own p) e']&&zJ i (k+1) cu cs
 | _,_,_=>false
def HY:aa A->aa A->aa A
 | .v x::as,_::rs=>.v x::HY as rs
 | .s _::as,r::rs=>r::HY as rs
 | _,_=>[]
inductive Ou where
 | no
 | mp (j:Nat)
 | mt (j u off:Nat)
def Ou.j:Ou->Nat
 | .no=>0
 | .mp j=>j
 | .mt j _ _=>j
def PM.outs:ah PM->Bool
 | some (.mt _ _)=>true
 | some (.mp _)=>true
 | _=>false
def ahI (sg:aO) (i:Nat):Bool:=PM.outs sg.ps[i]?
def apa (sg:aO) (j:Nat):Bool:=(List.range sg.ps.length).all fun i=>(i == j) || !PM.outs sg.ps[i]?
def OP (sg:aO):Ou->aa Ent × aa (Nat × Nat)
 | .no=>([],[])
 | .mp j=>match sg.ps[j]? with
  | some (.mp cs)=>([⟨j,0,cs.length,j,0⟩],[(j,j)])
  | _=>([],[])
 | .mt j u off=>match sg.ps[j]? with
  | some (.mt _ cs)=>([⟨u,off,cs.length,j,0⟩],[])
  | _=>([],[])
def okE (es:aa Ent) (zs:aa (Nat × Nat)) (c c':aa CT):Bool:=CT.beqs (CT.unpins (CT.mapSs (fun _=>[]) c)) (CT.unpins c')&&CT.lives c'&&(CT.roSs c).all fun r=>decide (r<FB)&&es.all (fun e=>e.r != r)&&zs.all (fun z=>z.1 != r)
def apb (sg:aO) (D:aa TT) (es:aa Ent) (zs:aa (Nat × Nat)):Ou->Bool
 | .no=>(List.range sg.ps.length).all fun i=>!PM.outs sg.ps[i]?
 | .mp j=>apa sg j&&(match sg.ps[j]?,gt D j with
  | some (.mp cs),.box cr=>okE es zs cr cs&&Kv es j 0 cs.length j 0&&(match zs.find? (fun p=>p.1 == j) with
   | some p=>p.2 == j
   | none=>false)
  | _,_=>false)
 | .mt j u off=>apa sg j&&(match sg.ps[j]?,(gt D u).cts with
  | some (.mt _ cs),some cu=>decide (off+cs.length<=cu.length)&&zJ j 0 ((cu.drop off).take cs.length) cs&&Kv es u off cs.length j 0
  | _,_=>false)
def Av (args:aa (aa A)) (s:Nat->AV):Ou->ah (aa A)
 | .no=>some []
 | .mp j=>iM j s
 | .mt j u off=>match iM u s,args[j]? with
  | some ra,some as=>some (HY as ((ra.drop off).take as.length))
  | _,_=>none
section
variable {P:aR} {ac:Nat->Nat->aj} {κ0 κ:aP} {w0 w:aA} {N:Nat} {tg:Nat->TT} {sv s:Nat->AV} {a:Act} {D:aa TT} {sg:aO} {es:aa Ent} {zs:aa (Nat × Nat)}
theorem ahJ (h:R ac κ0 w0 κ w N tg sv (gm a)) (hN:sg.ps.length<=N) {j u:Nat} (hu:u≠FB) {vs:aa aj} (hac:∀k,ac j k=vs.getD k undef) {get:Nat->aj}:∀{cu cs:aa CT} {k off:Nat} {asj row:aa A},zJ j k cu cs=true ->
  (∀i,i<cs.length->match es.find? (fun e=>e.hit u (off+i)) with|some e=>e.d=j/\e.b+(off+i-e.lo)=k+i|none=>False) ->
  (∀i jj c e,cu[i]?=some (.sl (.own (some (jj,c))) e)->get (off+i)=ac jj c) ->
  aB κ w cu (u,[]) off get row->aB κ0 w0 cs (j,[]) k (fun i=>vs.getD i undef) asj->aB (uF κ0 κ (qh es zs)) w cs (j,[]) k (fun i=>vs.getD i undef) (HY asj row)
 | [],[],k,off,asj,row,_,_,_,h1,h2=>by
  cases asj with
  | nil=>simp [HY,aB]
  | cons=>simp [aB] at h2
 | [],_::_,_,_,_,_,hm,_,_,_,_=>by simp [zJ] at hm
 | c::cu,[],_,_,_,_,hm,_,_,_,_=>by simp [zJ] at hm
 | c::cu,.d::cs,k,off,asj,row,hm,hf,hp,h1,h2=>by
  cases asj with
  | nil=>simp [aB] at h2
  | cons x asj=>
   cases row with
   | nil=>simp [aB] at h1
   | cons r row=>
    simp only [aB] at h1 h2
    have Ob:zJ j (k+1) cu cs=true:=by
     cases c with
     | d=>simpa only [zJ] using hm
     | sl m e=>cases m with
      | own p=>cases p with
       | none=>simpa only [zJ] using hm
       | some p=>simpa only [zJ] using hm
      | ro S=>simpa only [zJ] using hm
      | dead=>simpa only [zJ] using hm
    have ih:=ahJ h hN hu hac (off:=off+1) Ob (fun i hi=>by
     have:=hf (i+1) (by simpa using hi)
     rw [show off+1+i=off+(i+1) from by omega,show k+1+i=k+(i+1) from by omega];exact this) (fun i jj c e hc=>by
     have:=hp (i+1) jj c e (by simpa using hc)
     rw [show off+1+i=off+(i+1) from by omega];exact this) h1.2 h2.2
    cases x with
    | s xs=>simp [RC] at h2
    | v y=>
     simp only [HY,aB]
     exact ⟨by simpa only [RC] using h2.1,ih⟩
 | c::cu,.sl m e'::cs,k,off,asj,row,hm,hf,hp,h1,h2=>by
  cases asj with
  | nil=>simp [aB] at h2
  | cons x asj=>
   cases row with
   | nil=>simp [aB] at h1
   | cons r row=>
    unfold zJ at hm
    split at hm
    ·rename_i h3 h4;cases h3
    ·rename_i h3 h4;cases h4
    ·rename_i jj kk e cu' p e'' cs' h3 h4
     cases h3;cases h4
     simp only [aM,beq_iff_eq] at hm
     obtain ⟨⟨⟨rfl,rfl⟩,a_⟩,Ob⟩:=hm
     simp only [aB] at h1 h2
     have ih:=ahJ h hN hu hac (off:=off+1) Ob (fun i hi=>by
      have:=hf (i+1) (by simpa using hi)
      rw [show off+1+i=off+(i+1) from by omega,show kk+1+i=kk+(i+1) from by omega];exact this) (fun i jj c e hc=>by
      have:=hp (i+1) jj c e (by simpa using hc)
      rw [show off+1+i=off+(i+1) from by omega];exact this) h1.2 h2.2
     cases x with
     | v y=>simp [RC] at h2
     | s xs=>
      simp only [HY,aB]
      refine ⟨?_,ih⟩
      have azg:=hp 0 jj kk e rfl
      simp only [rJ] at azg
      have h5:RC κ w (.sl (.own p) e') (u,[off]) (get off) r:=by
       have:aB κ w [.sl (.own (some (jj,kk))) e] (u,[]) off get [r]:=by simp only [aB];exact ⟨h1.1,trivial⟩
       have:=Sm a_ this
       simp only [aB] at this
       simpa [Pl.at] using this.1
      rw [azg,hac] at h5
      have gU:CT.allS (fun _=>False) (.sl (.own p) e'):=by
       have:=(uC a_).2.2
       simp only [CT.noros,wW] at this
       exact adb this
      have h6:=IP (f:=id) (κ':=uF κ0 κ (qh es zs)) (w':=w) (p':=(jj,[kk])) (fun S hS=>hS.elim) gU (fun b q hb=>⟨?_,Same.refl w b⟩) h5
      ·rw [R8] at h6
       simpa [Pl.at] using h6
      ·simp only [Ap] at hb ⊢
       rw [OM h hb hu]
       have:=hf 0 (by simp)
       simp only [rJ] at this
       split at this
       ·rename_i e1 he
        simp only [qh,he,dx,this.1,this.2]
       ·exact this.elim
    ·cases hm
end
def SA:ResultVar->Nat
 | .tmp t=>t
 | .cell a _=>a
def oO (s:Nat->AV):aa Nat->ah (aa A)
 | []=>some []
 | t::ts=>match iM t s,oO s ts with
  | some as,some r=>some (as++r)
  | _,_=>none
theorem aD8 {P:aR} {D:aa TT} {rv:ResultVar} {I:XQ} (h:rvX P D rv=some I):I.reg=SA rv:=by
 cases rv with
 | tmp t=>
  simp only [rvX] at h;split at h
  ·cases h;rfl
  ·split at h
   ·split at h
    ·cases h;rfl
    ·cases h
   ·cases h
  ·cases h
 | cell a ty=>
  simp only [rvX] at h;split at h
  ·split at h
   ·cases h;rfl
   ·cases h
  ·cases h
theorem VI {P:aR} {D:aa TT} {s:Nat->AV}:∀{rvs:aa ResultVar} {Is:aa XQ},HV P D rvs=some Is->Sy s Is=oO s (rvs.map SA)
 | [],Is,h=>by simp only [HV,aK] at h;subst h;rfl
 | rv::rvs,Is,h=>by
  simp only [HV] at h;split at h
  ·rename_i I Is' h1 h2;cases h;simp only [Sy,bf,oO,aD8 h1,VI h2];rfl
  ·cases h
def ahK (np:Nat):aa XQ->Nat->aa Ent
 | [],_=>[]
 | I::Is,b=>(if CT.nowns I.cs then [] else [⟨I.t,I.off,I.cs.length,np,b⟩])++ahK np Is (b+I.cs.length)
def ahL (P:aR) (sg:aO) (D:aa TT) (rvs:aa ResultVar) (ou:Ou):ah (aa Ent × aa (Nat × Nat)):=
 let np:=sg.ps.length
 match sg.res,rvs with
 | .u,[]=>some ((OP sg ou).1,(OP sg ou).2)
 | .bx cs,[.tmp t]=>match gt D t with
  | .box cr=>
   let es:=⟨t,0,cr.length,np,0⟩::(OP sg ou).1
   let zs:=(t,np)::(OP sg ou).2
   if Kv es t 0 cr.length np 0&&agA sg es zs cr&&CT.les cr cs then some (es,zs) else none
  | _=>none
 | .one ag cs,[rv]=>match rvX P D rv with
  | some I=>
   let es:=ahK np [I] 0++(OP sg ou).1
   let zs:=(OP sg ou).2
   if Jb sg es zs np [I] 0&&(I.ag == ag)&&CT.les I.cs cs then some (es,zs) else none
  | none=>none
 | .tup ws cs,rvs=>match HV P D rvs with
  | some Is=>
   let es:=ahK np Is 0++(OP sg ou).1
   let zs:=(OP sg ou).2
   if Jb sg es zs np Is 0&&decide (Is.map (fun I=>(I.ag,I.cs.length))=ws)&&CT.les (Is.flatMap (·.cs)) cs&&decide (2<=rvs.length) then some (es,zs) else none
  | none=>none
 | _,_=>none
def SB (sg:aO) (d:Nat):Bool:=(d == sg.ps.length) || (match sg.ps[d]? with
 | some pm=>pm.mut
 | none=>false)
def axV (P:aR) (sg:aO) (rvs:aa ResultVar) (ou:Ou) (D:aa TT):Bool:=
 match ahL P sg D rvs ou with
 | some (es,zs)=>apb sg D es zs ou&&es.all (fun e=>SB sg e.d)&&zs.all (fun z=>SB sg z.2)
 | none=>false
def apc (P:aR) (sigs:FuncId->ah aO) (K:FuncId) (sg:aO) (h:HT) (ou:Ou):ah (CC × aa Nat):=
 match P.funcs[K]? with
 | some fn=>match fn.body with
  | some c=>match oN P sigs (ahI sg) fn.ntmps h c (inD sg fn.ntmps) with
   | some (cc,out)=>if decide (sg.ps.length<=fn.ntmps)&&decide (fn.ntmps<=FB)&&sg.ps.all awi&&(out.n.toList++out.rt).all (axV P sg fn.results.toList ou) then some (cc,fn.results.toList.map SA) else none
   | none=>none
  | none=>none
 | none=>none
section
variable {P:aR} {κ0 κ:aP} {w0 w:aA} {N:Nat} {tg:Nat->TT} {sv s:Nat->AV} {a:Act} {D:aa TT} {sg:aO} {es:aa Ent} {zs:aa (Nat × Nat)} {ac:Nat->Nat->aj}
def aF9:aa aj->aj
 | [x]=>x
 | xs=>.tuple xs.toArray
theorem Df {fn:Func} {xs:aa aj} (hl:xs.length=fn.results.toList.length) (h:∀(i:Nat) rv,fn.results.toList[i]?=some rv->∃x,xs[i]?=some x/\(Sz a.tmps rv).run P w = .ok x w) :
  (results fn a.tmps).run P w = .ok (aF9 xs) w:=by
 have h1:(fn.results.mapM (Sz a.tmps)).run P w = .ok xs.toArray w:=asU h hl;have h2:results fn a.tmps=(do
   let vs <-fn.results.mapM (Sz a.tmps)
   pure (if h:vs.size=1 then vs[0] else .tuple vs):Sem aj):=by
  unfold results;congr 1
 rw [h2,aF h1];cases xs with
 | nil=>rfl
 | cons x xs=>
  cases xs with
  | nil=>rfl
  | cons y xs=>rfl
theorem asV (h:R ac κ0 w0 κ w N tg sv (gm a)) (hL:Le (gt D) s tg sv) (hN:sg.ps.length<=N) {fn:Func} {ou:Ou} (lI:ahL P sg D fn.results.toList ou=some (es,zs)) {res:aa A} (kW:oO s (fn.results.toList.map SA)=some res) :
  ∃v,(results fn a.tmps).run P w = .ok v w/\aoM (uF κ0 κ (qh es zs)) w sg.ps.length v res sg.res:=by
 unfold ahL at lI;simp only at lI;split at lI
 ·rename_i h1 h2;cases lI;rw [h2] at kW;refine ⟨.tuple #[],?_,?_⟩
  ·have:=Df (P:=P) (w:=w) (a:=a) (fn:=fn) (xs:=[]) (by rw [h2];rfl) (by rw [h2];simp);exact this
  ·rw [h1];rfl
 ·rename_i cs t h1 h2;split at lI;case h_2=>cases lI
  case h_1 cr hT=>
  split at lI;case isFalse=>cases lI
  case isTrue hc=>
  cases lI;simp only [aM] at hc;rw [h2] at kW;simp only [bf,bQ,SA,oO] at kW;split at kW;case h_2=>cases kW
  case h_1 as r hg hr=>
  cases hr;cases kW;rw [kY];obtain ⟨is,hs⟩:=df hg;obtain ⟨e1,e2⟩:=hL.at hT (by simp);have k1:=h.tr t;rw [e1] at k1;simp only [TR] at k1;obtain ⟨as',b,g1,g2,g3,g4,g5,_,g7⟩:=k1;rw [e2,hs] at g1;cases g1;have lV:t<N:=by
   apply sW;intro dD;have:=h.out t dD;rw [e1] at this;cases this
  have bv:t≠FB:=Nat.ne_of_lt (mU lV h.nle);refine ⟨.pointer (some ⟨b,0,none⟩),?_,?_⟩
  ·have:=Df (P:=P) (w:=w) (a:=a) (fn:=fn) (xs:=[.pointer (some ⟨b,0,none⟩)]) (by rw [h2];rfl) (fun i rv hi=>by
    rw [h2] at hi
    cases i with
    | zero=>simp at hi;subst hi;exact ⟨_,rfl,by show (pure (gm a t):Sem aj).run P w=_;rw [g2];rfl⟩
    | succ i=>simp at hi)
   exact this
  ·rw [h1];refine ⟨b,rfl,g3,?_,by rw [<-jV hc.2];exact g5,xm hc.2 (amC h hN bv (by rw [hc.1.1];simp) (XP hc.1.2) (fun i _=>rfl) g7)⟩;rw [OM h g4 bv];simp [qh]
 ·rename_i ag cs rv h1 h2;split at lI;case h_2=>cases lI
  case h_1 I hI=>
  split at lI;case isFalse=>cases lI
  case isTrue hc=>
  cases lI;simp only [aM,beq_iff_eq] at hc;have hIs:HV P D [rv]=some [I]:=by simp only [HV,hI]
  rw [h2,<-VI hIs] at kW;obtain ⟨xs,vs,k1,k2,k3,k4,k5,k6⟩:=VH (np:=sg.ps.length) (pre:=[]) (base:=0) h hL hN hIs hc.1.1 kW rfl;obtain ⟨x,rfl,hx⟩:=k5 I rfl;refine ⟨x,?_,?_⟩
  ·exact Df (P:=P) (w:=w) (a:=a) (fn:=fn) (xs:=[x]) (by rw [h2];rfl) (by rw [h2];exact k2)
  ·rw [h1];simp only [FX,List.flatMap_nil,kY,dN] at k4 k6;exact ⟨vs,by rw [<-hc.1.2];exact hx,by rw [<-jV hc.2];exact k4,xm hc.2 k6⟩
 ·rename_i ws cs h1;split at lI;case h_2=>cases lI
  case h_1 Is hIs=>
  split at lI;case isFalse=>cases lI
  case isTrue hc=>
  cases lI;simp only [aM,decide_eq_true_eq] at hc;rw [<-VI hIs] at kW;obtain ⟨xs,vs,k1,k2,k3,k4,k5,k6⟩:=VH (np:=sg.ps.length) (pre:=[]) (base:=0) h hL hN hIs hc.1.1.1 kW rfl;refine ⟨.tuple xs.toArray,?_,?_⟩
  ·have:=Df (P:=P) (w:=w) (a:=a) (fn:=fn) (xs:=xs) k1 k2;rw [this];have bJ:2<=xs.length:=by rw [k1];exact hc.2
   cases xs with
   | nil=>simp at bJ
   | cons x xs=>
    cases xs with
    | nil=>simp at bJ
    | cons y xs=>rfl
  ·rw [h1];simp only [dN] at k6;exact ⟨xs.toArray,vs,rfl,by rw [<-hc.1.1.2];exact k3,by rw [<-jV hc.1.2];exact k4,xm hc.1.2 k6⟩
 ·cases lI
theorem ahM {d:Nat} (h:SB sg d=true):d=sg.ps.length\/∃pm,sg.ps[d]?=some pm/\pm.mut=true:=by
 unfold SB at h;simp only [iQ,beq_iff_eq] at h;rcases h with h|h
 ·exact .inl h
 ·split at h
  ·rename_i pm kK;exact .inr ⟨pm,kK,h⟩
  ·cases h
theorem awk (he:es.all (fun e=>SB sg e.d)=true) (hz:zs.all (fun z=>SB sg z.2)=true) {b r:Nat} {q:aa Nat} (hk:uF κ0 κ (qh es zs) b=some (r,q)) :
  (r=FB/\∃q',κ0 b=some (FB,q'))\/r=sg.ps.length\/∃pm,sg.ps[r]?=some pm/\pm.mut=true:=by
 rcases OO hk with ⟨rfl,h0⟩|⟨r0,q0,h1,h2⟩
 ·exact .inl ⟨rfl,_,h0⟩
 ·right;cases q0 with
  | nil=>
   simp only [qh,cO,bU] at h2;obtain ⟨z,hz1,rfl,_⟩:=h2;exact ahM ((bW.1 hz) z (RU hz1))
  | cons j q=>
   simp only [qh,cO,bU] at h2;obtain ⟨e,he1,rfl,_⟩:=h2;exact ahM ((bW.1 he) e (RU he1))
theorem ahN {j i:Nat} {o as:aa A} (h:(List.replicate j []++[o])[i]?=some as):(i<j/\as=[])\/(i=j/\as=o):=by
 rw [List.getElem?_append] at h;split at h
 ·rename_i hi;simp only [FV] at hi;rw [ags] at h;rw [if_pos hi] at h;cases h;exact .inl ⟨hi,rfl⟩
 ·rename_i hi;simp only [FV] at hi h;cases hd:i-j with
  | zero=>rw [hd] at h;simp at h;subst h;exact .inr ⟨by omega,rfl⟩
  | succ k=>rw [hd] at h;simp at h
theorem az5 (h:R ac κ0 w0 κ w N tg sv (gm a)) (hL:Le (gt D) s tg sv) (hN:sg.ps.length<=N) {ou:Ou} (hou:apb sg D es zs ou=true) {xs:aa aj} {args:aa (aa A)}
  (hac:∀j k ag cs x,sg.ps[j]?=some (.mt ag cs)->xs[j]?=some x->ac j k=((cellsOf ag x).getD []).getD k undef) (arN:∀i,ahI sg i=true->gm a i=xs.getD i undef)
  (Hl:∀i pm x as,sg.ps[i]?=some pm->xs[i]?=some x->args[i]?=some as->pW κ0 w0 i x as pm) (qA:args.length=sg.ps.length)
  {o:aa A} (ho:Av args s ou=some o):∀i pm x as,sg.ps[i]?=some pm->xs[i]?=some x->(List.replicate ou.j []++[o])[i]?=some as->aoL (uF κ0 κ (qh es zs)) w i x as pm:=by
 intro i pm x as kK hx jL;have triv:PM.outs (some pm)=false->aoL (uF κ0 κ (qh es zs)) w i x as pm:=by
  intro hf;cases pm<;>first
   | trivial
   | (simp [PM.outs] at hf)
 have other:∀j,apa sg j=true->i≠j->PM.outs (some pm)=false:=by
  intro j gU wU;have:=(bW.1 gU) i (jh.2 (bn kK).1);rw [kK] at this;simpa [wU] using this
 cases ou with
 | no=>
  refine triv ?_;have:=(bW.1 hou) i (jh.2 (bn kK).1);rw [kK] at this;simpa using this
 | mp j=>
  simp only [apb,aM] at hou;rcases ahN jL with ⟨hi,_⟩|⟨wU,rfl⟩
  ·exact triv (other j hou.1 (by have:i<j:=hi;omega))
  ·have wU:j=i:=wU.symm;subst wU;have FO:=hou.2;rw [kK] at FO;split at FO;case h_2=>cases FO
   case h_1 cs cr axB hT=>
   cases axB;simp only [aM] at FO;obtain ⟨⟨a_,RI⟩,hz⟩:=FO;simp only [Av] at ho;obtain ⟨is,hs⟩:=df ho;obtain ⟨e1,e2⟩:=hL.at hT (by simp);have k1:=h.tr j;rw [e1] at k1;simp only [TR] at k1;obtain ⟨as',b,g1,g2,g3,g4,g5,_,g7⟩:=k1;rw [e2,hs] at g1;cases g1;have hjp:=(bn kK).1;have bv:j≠FB:=by have:=h.nle;omega
   have JY:x = .pointer (some ⟨b,0,none⟩):=by
    have:=arN j (by unfold ahI;rw [kK];rfl);rw [dA,hx,g2] at this;exact this.symm
   simp only [okE,aM,bW,decide_eq_true_eq,bne_iff_ne] at a_;have rE:=CT.beqs_eq a_.1.1;have bJ:cr.length=cs.length:=by
    have:=congrArg List.length rE;simpa [iY,gM] using this
   have aEs:∀S,(∀m,m∈S->m∈CT.roSs cr)->∀b,bu κ w S b->bu (uF κ0 κ (qh es zs)) w [] b:=by
    intro S hS b hb;refine ⟨hb.1,fun r p hk => ?_⟩;exfalso;rcases OO hk with ⟨rfl,h0⟩|⟨r0,q0,h1,h2⟩
    ·have h1:=(h.fb b p h0).1;have h2:=(a_.2 _ (hS _ (hb.2 _ _ h1).1)).1.1;omega
    ·have h3:=a_.2 _ (hS _ (hb.2 _ _ h1).1);cases q0 with
     | nil=>
      simp only [qh,cO] at h2;obtain ⟨z,hz,_⟩:=h2;have h4:=List.find?_some hz;exact h3.2 z (RU hz) (by simpa using h4)
     | cons k q=>
      simp only [qh,cO] at h2;obtain ⟨e,he,_⟩:=h2;have h4:=List.find?_some he;simp only [Ent.hit,aM,beq_iff_eq] at h4;exact h3.1.2 e (RU he) h4.1.1
   refine ⟨b,JY,g3,?_,by rw [<-bJ];exact g5,?_⟩
   ·rw [OM h g4 bv];split at hz
    ·rename_i p hp;simp only [beq_iff_eq] at hz;simp only [qh,hp,dx,hz]
    ·cases hz
   ·have h8:=gH (f:=fun _=>[]) (P:=fun S=>∀m,m∈S->m∈CT.roSs cr) (κ':=uF κ0 κ (qh es zs)) (w':=w) (p':=(j,[])) (j':=0) (get':=cellD w b) (fun S hS b hb=>⟨aEs S hS b hb,Same.refl w b⟩) (pX fun m hm=>hm) (fun i hi b2 q hb=>⟨?_,Same.refl w b2⟩) (fun i hi=>rfl) g7
    ·have h9:=gI.2 h8;rw [rE] at h9;exact gI.1 h9
    ·simp only [dN] at hb ⊢;rw [OM h hb bv];simp only [Kv,bW] at RI;have h1:=RI i (jh.2 (by omega));split at h1
     ·rename_i e he;simp only [aM,beq_iff_eq] at h1;simp only [qh,he,dx,h1.1,h1.2]
     ·cases h1
 | mt j u off=>
  simp only [apb,aM] at hou;rcases ahN jL with ⟨hi,_⟩|⟨wU,rfl⟩
  ·exact triv (other j hou.1 (by have:i<j:=hi;omega))
  ·have wU:j=i:=wU.symm;subst wU;have FO:=hou.2;rw [kK] at FO;split at FO;case h_2=>cases FO
   case h_1 ag cs cu axB hcu=>
   cases axB;simp only [aM,decide_eq_true_eq] at FO;obtain ⟨⟨yR,hmt⟩,RI⟩:=FO;simp only [Av] at ho;split at ho;case h_2=>cases ho
   case h_1 ra asj BN haj=>
   cases ho;have hA:=Hl j _ x asj kK hx haj;obtain ⟨vs,v1,v2,v3⟩:=hA;obtain ⟨is,hs⟩:=df BN;obtain ⟨qQ,hsu⟩:=Bd hL hcu;obtain ⟨ra',yQ⟩:=h.sv_root qQ;rw [hsu,hs] at yQ;cases yQ;have fF:=h.root qQ (by rw [hsu,hs]);have aGW:asj.length=cs.length:=dH v3;have cZ:=mH cs.length (mG off fF);rw [cB] at cZ;have huN:u<N:=by
    apply sW;intro dD;have:=h.out u dD;rw [this] at qQ;simp [TT.cts] at qQ
   have aEt:rO ac cu (rg w (tg u) (gm a u)):=by
    have k1:=h.tr u;cases hT:tg u with
    | val ag' cs'=>
     rw [hT] at k1 qQ;simp only [TT.cts,aK] at qQ;subst qQ;simp only [TR] at k1;obtain ⟨as,ws,g1,g2,g3,g4,g5⟩:=k1;have:rg w (.val ag' cs') (gm a u)=fun k=>ws.getD k undef:=by funext k;simp [rg,g2]
     rw [this];exact g4
    | box cs'=>
     rw [hT] at k1 qQ;simp only [TT.cts,aK] at qQ;subst qQ;simp only [TR] at k1;obtain ⟨as,b,g1,g2,g3,g4,g5,g6,g7⟩:=k1;have:rg w (.box cs') (gm a u)=cellD w b:=by funext k;simp [rg,g2]
     rw [this];exact g6
    | dead=>rw [hT] at qQ;simp [TT.cts] at qQ
    | alias=>rw [hT] at qQ;simp [TT.cts] at qQ
    | ptr=>rw [hT] at qQ;simp [TT.cts] at qQ
    | tup=>rw [hT] at qQ;simp [TT.cts] at qQ
   refine ⟨vs,v1,v2,?_⟩;rw [aGW];refine ahJ (j:=j) (u:=u) h hN (by have:=h.nle;omega) (vs:=vs) (fun k => ?_) hmt (fun i hi => ?_) (fun i jj c e hc => ?_) cZ v3
   ·rw [hac j k ag cs x kK hx,v1];rfl
   ·have:=(bW.1 RI) i (jh.2 hi);split at this
    ·rename_i e he;rw [he];simpa using this
    ·cases this
   ·have hi:i<cs.length:=by
     have:=(bn hc).1;simp only [eU,kX] at this;omega
    rw [qR hi,oF] at hc;exact aEt _ _ _ _ hc
end
theorem aD9 {P:aR} {sigs:FuncId->ah aO} {K:FuncId} {sg:aO} {h:HT} {ou:Ou} {cc:CC} {regs:aa Nat} (hc:apc P sigs K sg h ou=some (cc,regs)) {args:aa (aa A)} {res o:aa A}
  (hW:W P cc (inS args) fun e s=>(e = .normal\/e = .ret)/\oO s regs=some res/\Av args s ou=some o):Good P K sg args res (List.replicate ou.j []++[o]):=by
 unfold apc at hc;split at hc;case h_2=>cases hc
 case h_1 fn hfn=>
 split at hc;case h_2=>cases hc
 case h_1 c hb=>
 split at hc;case h_2=>cases hc
 case h_1 cc' out Hq=>
 split at hc;case isFalse=>cases hc
 case isTrue agO=>
 cases hc;simp only [aM,decide_eq_true_eq] at agO;obtain ⟨⟨⟨hN,hNF⟩,kK⟩,aGX⟩:=agO;intro κ w xs kw arE Oa qA Hl;refine calls_of_wp hfn hb ?_;have hgm:∀t,gm { tmps:=xs.toArray++Array.replicate (fn.ntmps-xs.toArray.size) undef,defers:=[] } t=xs.getD t undef:=by
  intro t;simp only [gm,rG,dA,Array.getElem?_append,agq];by_cases ht:t<xs.length
  ·simp [ht]
  ·simp only [List.size_toArray,if_neg ht];rw [uY (by omega)];split<;>rfl
 have hR0:=aBu kw Oa qA Hl hN hNF kK;have hRD:RD (ahI sg) (fun i=>xs.getD i undef) (ahF sg xs) κ w fn.ntmps (gt (inD sg fn.ntmps)) (inS args) { tmps:=xs.toArray++Array.replicate (fn.ntmps-xs.toArray.size) undef,defers:=[] } w:=by
  refine ⟨⟨κ,_,_,?_,fun t=>.inr ⟨rfl,rfl⟩⟩,?_,rfl,fun i _=>hgm i⟩
  ·have:gm { tmps:=xs.toArray++Array.replicate (fn.ntmps-xs.toArray.size) undef,defers:=[] }=fun t=>xs.getD t undef:=funext hgm
   rw [this];exact hR0
  ·simp;omega
 refine wp_mono (az4 Hq hRD hW) fun e a w' hp => ?_
 have fin:∀s D,D∈out.n.toList++out.rt->oO s (fn.results.toList.map SA)=some res->Av args s ou=some o->RD (ahI sg) (fun i=>xs.getD i undef) (ahF sg xs) κ w fn.ntmps (gt D) s a w' ->
   a.defers=[]/\∃v,(results fn a.tmps).run P w' = .ok v w'/\∃v' κ',Ending.returned v = .returned v'/\Post sg κ w xs res (List.replicate ou.j []++[o]) κ' w' v':=by
  intro s D hD kW ho hRD;obtain ⟨κ1,tg,sv,hR,hL⟩:=hRD.st;have hE:=(bW.1 aGX) D hD;unfold axV at hE;split at hE;case h_2=>cases hE
  case h_1 es zs lI=>
  simp only [aM] at hE;obtain ⟨v,hv,Vj⟩:=asV hR hL hN lI kW;refine ⟨hRD.defers,v,hv,v,uF κ κ1 (qh es zs),rfl,⟨fun b hb => ?_,⟨hR.fr.size,fun b hb h0 => ?_,hR.fr.os,hR.fr.out,hR.fr.tape⟩,fun b q h0 => ?_,fun b r q hk=>awk hE.1.2 hE.2 hk,Vj,?_⟩⟩
  ·have hk:=hR.col b hb;unfold uF;split
   ·rename_i r q h0;split
    ·rename_i he;subst he;have:=(hR.fb b q h0).1;rw [hk] at this;cases this
    ·rw [hk];rfl
   ·rw [hk];rfl
  ·have hk:=hR.fr.kept b hb h0;refine ⟨?_,hk.2⟩;unfold uF;rw [h0,hk.1];rfl
  ·refine ⟨?_,(hR.fb b q h0).2⟩;unfold uF;rw [h0];simp
  ·refine az5 hR hL hN hE.1.1 (xs:=xs) (args:=args) (fun j k ag cs x hj hx => ?_) hRD.par Hl qA ho;unfold ahF;rw [hj,hx]
 cases e with
 | normal=>
  obtain ⟨s,D,h1,⟨_,h2,h3⟩,h4⟩:=hp;obtain ⟨k1,v,k2,k3⟩:=fin s D (by simp [h1]) h2 h3 h4;exact ⟨k1,v,k2,k3⟩
 | ret=>
  obtain ⟨s,D,h1,⟨_,h2,h3⟩,h4⟩:=hp;obtain ⟨k1,v,k2,k3⟩:=fin s D (by simp [h1]) h2 h3 h4;exact ⟨k1,v,k2,k3⟩
 | exit id=>
  obtain ⟨s,D,h1,⟨h2,_⟩,_⟩:=hp;rcases h2 with h2|h2<;>cases h2
 | goto l=>exact hp
 | panic c=>exact hp.elim
 | outgrown=>exact hp.elim
end Go.Fw
namespace Go.Fw
inductive TY where
 | b
 | i (k:IntKind)
 | s
 | sl (e:List TY)
mutual
def TY.beq:TY->TY->Bool
 | .b,.b=>true
 | .s,.s=>true
 | .i k,.i k'=>decide (k=k')
 | .sl e,.sl e'=>TY.beqs e e'
 | _,_=>false
def TY.beqs:aa TY->aa TY->Bool
 | [],[]=>true
 | c::cs,c'::cs'=>c.beq c'&&TY.beqs cs cs'
 | _,_=>false
end
mutual
theorem TY.beq_eq:∀{c c':TY},c.beq c'=true->c=c'
 | .b,c',h=>by cases c'<;>simp [TY.beq] at h;rfl
 | .s,c',h=>by cases c'<;>simp [TY.beq] at h;rfl
 | .i k,c',h=>by cases c'<;>simp [TY.beq] at h;rw [h]
 | .sl e,c',h=>by
  cases c' with
  | sl e'=>simp only [TY.beq] at h;rw [TY.beqs_eq h]
  | _=>simp [TY.beq] at h
theorem TY.beqs_eq:∀{cs cs':aa TY},TY.beqs cs cs'=true->cs=cs'
 | [],cs',h=>by cases cs'<;>simp [TY.beqs] at h;rfl
 | c::cs,cs',h=>by
  cases cs' with
  | nil=>simp [TY.beqs] at h
  | cons c' cs'=>
   simp only [TY.beqs,aM] at h;rw [TY.beq_eq h.1,TY.beqs_eq h.2]
end
mutual
def l_:TY->Type
 | .b=>Bool
 | .i _=>Int
 | .s=>ByteArray
 | .sl e=>aa (bg e)
def bg:aa TY->Type
 | []=>Unit
 | [c]=>l_ c
 | c::c'::cs=>l_ c × bg (c'::cs)
end
def qX {c:TY}:{cs:aa TY}->l_ c->bg cs->bg (c::cs)
 | [],x,_=>x
 | _::_,x,r=>(x,r)
def gW {c:TY}:{cs:aa TY}->bg (c::cs)->l_ c
 | [],x=>x
 | _::_,x=>x.1
def jO {c:TY}:{cs:aa TY}->bg (c::cs)->bg cs
 | [],_=>()
 | _::_,x=>x.2
theorem akW {c:TY} {cs:aa TY} (x:l_ c) (r:bg cs):gW (qX x r)=x:=by cases cs<;>rfl
theorem akX {c:TY} {cs:aa TY} (x:l_ c) (r:bg cs):jO (qX x r)=r:=by cases cs<;>rfl
mutual
def enc:(c:TY)->l_ c->A
 | .b,x=>.v (.bool x)
 | .i k,x=>.v (.int k x)
 | .s,x=>.v (.string x)
 | .sl e,x=>.s (List.map (bC e) x)
def bC:(cs:aa TY)->bg cs->aa A
 | [],_=>[]
 | [c],x=>[enc c x]
 | c::c'::cs,x=>enc c x.1::bC (c'::cs) x.2
end
abbrev Ei {e:List TY} (v:l_ (.sl e)):List (bg e):=v
theorem uG {e:aa TY} (v:l_ (.sl e)):enc (.sl e) v = .s (List.map (bC e) (Ei v)):=by simp only [enc]
theorem eu {c:TY} {cs:aa TY} (x:bg (c::cs)):bC (c::cs) x=enc c (gW x)::bC cs (jO x):=by
 cases cs with
 | nil=>simp [bC,gW]
 | cons c' cs=>simp [bC,gW,jO]
theorem pY {c:TY} {cs:aa TY} (x:l_ c) (r:bg cs):bC (c::cs) (qX x r)=enc c x::bC cs r:=by
 rw [eu,akW,akX]
theorem VJ:∀{cs:aa TY} (x:bg cs),(bC cs x).length=cs.length
 | [],x=>by simp [bC]
 | c::cs,x=>by rw [eu];simp [VJ]
def apd:(n:Nat)->(cs:aa TY)->bg cs->bg (cs.drop n)
 | 0,_,x=>x
 | _+1,[],x=>x
 | n+1,_::cs,x=>apd n cs (jO x)
def agB:(n:Nat)->(cs:aa TY)->bg cs->bg (cs.take n)
 | 0,_,_=>()
 | _+1,[],x=>x
 | n+1,_::cs,x=>qX (gW x) (agB n cs (jO x))
theorem adw:∀{n:Nat} {cs:aa TY} {x:bg cs},bC (cs.drop n) (apd n cs x)=(bC cs x).drop n
 | 0,_,_=>rfl
 | _+1,[],x=>rfl
 | n+1,c::cs,x=>by
  rw [eu x];exact adw (n:=n) (cs:=cs) (x:=jO x)
theorem adx:∀{n:Nat} {cs:aa TY} {x:bg cs},bC (cs.take n) (agB n cs x)=(bC cs x).take n
 | 0,_,_=>rfl
 | _+1,[],x=>rfl
 | n+1,c::cs,x=>by
  refine (pY (gW x) (agB n cs (jO x))).trans ?_;rw [eu x,CU,adx]
def ahO {B:Type} (cs:aa TY) (x:bg cs) (off n:Nat) (k:(cs':aa TY)->bg cs'->B):B:=
 bif Nat.beq off 0&&Nat.ble cs.length n then k cs x else k ((cs.drop off).take n) (agB n _ (apd off cs x))
theorem acb {B:Type} {cs:aa TY} {x:bg cs} {off n:Nat} {k:(cs':aa TY)->bg cs'->B}:∃cs' y,ahO cs x off n k=k cs' y/\bC cs' y=((bC cs x).drop off).take n:=by
 unfold ahO;cases h:(Nat.beq off 0&&Nat.ble cs.length n) with
 | true=>
  simp only [aM] at h;refine ⟨cs,x,rfl,?_⟩;have h1:=Xc h.1;have h2:=Nat.le_of_ble_eq_true h.2;subst h1;rw [FY,CS (by rw [VJ];exact h2)]
 | false=>exact ⟨_,_,rfl,by rw [adx,adw]⟩
def tH {B:Type} (cs cs':aa TY) (x:bg cs) (k:bg cs'->ah B):ah B:=
 if h:TY.beqs cs cs'=true then k ((TY.beqs_eq h)▸x) else none
theorem rW {B:Type} {cs cs':aa TY} {x:bg cs} {k:bg cs'->ah B} {a:B} (h:tH cs cs' x k=some a):∃y,k y=some a/\bC cs' y=bC cs x:=by
 unfold tH at h;split at h
 ·rename_i hb;have he:=TY.beqs_eq hb;subst he;exact ⟨_,h,rfl⟩
 ·cases h
def agC {B:Type} (c c':TY) (x:l_ c) (k:l_ c'->ah B):ah B:=
 if h:TY.beq c c'=true then k ((TY.beq_eq h)▸x) else none
theorem ahP {B:Type} {c c':TY} {x:l_ c} {k:l_ c'->ah B} {a:B} (h:agC c c' x k=some a):∃y,k y=some a/\enc c' y=enc c x:=by
 unfold agC at h;split at h
 ·rename_i hb;have he:=TY.beq_eq hb;subst he;exact ⟨_,h,rfl⟩
 ·cases h
def HZ {B:Type}:(cs:aa TY)->bg cs->(off:Nat)->(cs':aa TY)->bg cs'->(bg cs->ah B)->ah B
 | cs,x,0,[],_,k=>k x
 | [],_,0,_::_,_,_=>none
 | c::cs,x,0,c'::cs',y,k=>agC c' c (gW y) fun v=>HZ cs (jO x) 0 cs' (jO y) fun r=>k (qX v r)
 | [],_,_+1,_,_,_=>none
 | _::cs,x,n+1,cs',y,k=>HZ cs (jO x) n cs' y fun r=>k (qX (gW x) r)
theorem Jc {B:Type}:∀{cs:aa TY} {x:bg cs} {off:Nat} {cs':aa TY} {y:bg cs'} {k:bg cs->ah B} {a:B},HZ cs x off cs' y k=some a ->
  ∃z,k z=some a/\bC cs z=splice (bC cs x) off (bC cs' y)
 | cs,x,0,[],_,k,a,h=>by
  refine ⟨x,by cases cs<;>exact h,?_⟩;simp [splice,bC]
 | [],_,0,_::_,_,_,_,h=>by simp [HZ] at h
 | c::cs,x,0,c'::cs',y,k,a,h=>by
  simp only [HZ] at h;obtain ⟨v,h1,h2⟩:=ahP h;obtain ⟨r,h3,h4⟩:=Jc h1;refine ⟨_,h3,?_⟩;rw [pY,h2,h4,eu x,eu y];simp only [splice,A7,dN,bA,cB,nC,List.drop_succ_cons]
 | [],x,n+1,cs',y,k,a,h=>by simp [HZ] at h
 | c::cs,x,n+1,cs',y,k,a,h=>by
  simp only [HZ] at h;obtain ⟨r,h3,h4⟩:=Jc h;refine ⟨_,h3,?_⟩;rw [pY,h4,eu x];simp only [splice,CU,nC,Nat.add_right_comm n 1,List.drop_succ_cons]
def acd {B:Type}:(cs:aa TY)->bg cs->Nat->(f:(c:TY)->l_ c->(l_ c->ah B)->ah B)->(bg cs->ah B)->ah B
 | [],_,_,_,_=>none
 | c::_,x,0,f,k=>f c (gW x) fun v=>k (qX v (jO x))
 | _::cs,x,n+1,f,k=>acd cs (jO x) n f fun r=>k (qX (gW x) r)
theorem amD {B:Type} {a:B} {f:(c:TY)->l_ c->(l_ c->ah B)->ah B}:∀{cs:aa TY} {x:bg cs} {n:Nat} {k:bg cs->ah B},acd cs x n f k=some a ->
  ∃c v k',(bC cs x)[n]?=some (enc c v)/\f c v k'=some a/\∀v',k' v'=some a->∃z,k z=some a/\bC cs z=(bC cs x).set n (enc c v')
 | [],_,_,_,h=>by simp [acd] at h
 | c::cs,x,0,k,h=>by
  simp only [acd] at h;refine ⟨c,gW x,_,by rw [eu];rfl,h,fun v' hv=>⟨_,hv,?_⟩⟩;rw [pY,eu x];rfl
 | c::cs,x,n+1,k,h=>by
  simp only [acd] at h;obtain ⟨c',v,k',h1,h2,h3⟩:=amD h;refine ⟨c',v,k',by rw [eu];simpa using h1,h2,fun v' hv => ?_⟩;obtain ⟨z,h4,h5⟩:=h3 v' hv;refine ⟨_,h4,?_⟩;rw [pY,eu x,h5];rfl
def ape {B:Type}:(cs:aa TY)->bg cs->Nat->((c:TY)->l_ c->ah B)->ah B
 | [],_,_,_=>none
 | c::_,x,0,k=>k c (gW x)
 | _::cs,x,n+1,k=>ape cs (jO x) n k
theorem amE {B:Type} {a:B}:∀{cs:aa TY} {x:bg cs} {n:Nat} {k:(c:TY)->l_ c->ah B},ape cs x n k=some a->∃c v,(bC cs x)[n]?=some (enc c v)/\k c v=some a
 | [],_,_,_,h=>by simp [ape] at h
 | c::cs,x,0,k,h=>⟨c,gW x,by rw [eu];rfl,h⟩
 | c::cs,x,n+1,k,h=>by
  obtain ⟨c',v,h1,h2⟩:=amE (cs:=cs) (x:=jO x) h;exact ⟨c',v,by rw [eu];simpa using h1,h2⟩
def SC {B:Type}:(cs:aa TY)->bg cs->Sk->aa Nat->((cs':aa TY)->bg cs'->ah B)->ah B
 | cs,x,[],[],k=>k cs x
 | cs,x,(c,_)::sk,i::is,k=>ape cs x c fun t v=>match t,v with
  | .sl e,l=>Option.bind (@getElem? (aa (bg e)) Nat _ _ _ l i) fun y=>SC e y sk is k
  | _,_=>none
 | _,_,_,_,_=>none
theorem ahQ {B:Type} {a:B}:∀{sk:Sk} {cs:aa TY} {x:bg cs} {is:aa Nat} {k:(cs':aa TY)->bg cs'->ah B},SC cs x sk is k=some a->∃e y,b_ (bC cs x) sk is=some (bC e y)/\k e y=some a
 | [],cs,x,[],k,h=>⟨cs,x,rfl,h⟩
 | [],cs,x,_::_,k,h=>by simp [SC] at h
 | _::_,cs,x,[],k,h=>by simp [SC] at h
 | (c,n)::sk,cs,x,i::is,k,h=>by
  simp only [SC] at h;obtain ⟨t,v,h1,h2⟩:=amE h;cases t with
  | sl e=>
   simp only [CR] at h2;obtain ⟨y,hy,h3⟩:=h2;obtain ⟨e',y',h4,h5⟩:=ahQ h3;refine ⟨e',y',?_,h5⟩;rw [uG] at h1;simp only [b_,h1,kz];rw [show (Ei v)[i]?=some y from hy];exact h4
  | _=>cases h2
def VK {B:Type} (f:(e:aa TY)->bg e->(bg e->ah B)->ah B):(cs:aa TY)->bg cs->Sk->aa Nat->(bg cs->ah B)->ah B
 | cs,x,[],[],k=>f cs x k
 | cs,x,(c,_)::sk,i::is,k=>acd cs x c (fun t v k'=>match t,v,k' with
  | .sl e,l,k'=>Option.bind (@getElem? (aa (bg e)) Nat _ _ _ l i) fun y=>VK f e y sk is fun y'=>k' (List.set (α:=bg e) l i y')
  | _,_,_=>none) k
 | _,_,_,_,_=>none
theorem ace {B:Type} {a:B} {f:(e:aa TY)->bg e->(bg e->ah B)->ah B} {g:aa A->aa A} (hf:∀e y k,f e y k=some a->∃z,k z=some a/\bC e z=g (bC e y)) :
  ∀{sk:Sk} {cs:aa TY} {x:bg cs} {is:aa Nat} {k:bg cs->ah B},VK f cs x sk is k=some a->∃row z,b_ (bC cs x) sk is=some row/\k z=some a/\bC cs z=lJ (bC cs x) sk is (g row)
 | [],cs,x,[],k,h=>by
  obtain ⟨z,h1,h2⟩:=hf _ _ _ h;exact ⟨_,z,rfl,h1,h2⟩
 | [],cs,x,_::_,k,h=>by simp [VK] at h
 | _::_,cs,x,[],k,h=>by simp [VK] at h
 | (c,n)::sk,cs,x,i::is,k,h=>by
  simp only [VK] at h;obtain ⟨t,v,k',h1,h2,h3⟩:=amD h;cases t with
  | sl e=>
   simp only [CR] at h2;obtain ⟨y,hy,h4⟩:=h2;obtain ⟨row,z,h5,h6,h7⟩:=ace hf h4;obtain ⟨w,h8,h9⟩:=h3 _ h6;refine ⟨row,w,?_,h8,?_⟩
   ·rw [uG] at h1;simp only [b_,h1,kz];rw [show (Ei v)[i]?=some y from hy];exact h5
   ·rw [h9,show enc (.sl e) (List.set v i z) = .s (List.map (bC e) ((Ei v).set i z)) from uG (e:=e) ((Ei v).set i z)];rw [uG] at h1;simp only [lJ,h1,kz];rw [show (Ei v)[i]?=some y from hy];simp only [dx];rw [<-h7,List.map_set]
  | _=>cases h2
mutual
def zT:(c:TY)->l_ c
 | .b=>false
 | .i _=>(0:Int)
 | .s=>ByteArray.empty
 | .sl _=>[]
def zL:(cs:aa TY)->bg cs
 | []=>()
 | [c]=>zT c
 | c::c'::cs=>(zT c,zL (c'::cs))
end
def aF_ (c:TY) (v:aj):ah (l_ c):=
 match c,v with
 | .b,.bool x=>some x
 | .i k,.int k' n=>if k=k' then some n else none
 | .s,.string x=>some x
 | .sl _,.slice none 0 0=>some []
 | _,_=>none
def ahR:(cs:aa TY)->aa aj->ah (bg cs)
 | [],[]=>some ()
 | c::cs,v::vs=>match aF_ c v,ahR cs vs with
  | some x,some r=>some (qX x r)
  | _,_=>none
 | _,_=>none
end Go.Fw
namespace Go.Fw
inductive BV where
 | n
 | v (cs:List TY) (x:bg cs) (is:List Nat)
 | p (is:List Nat)
def BV.av:BV->AV
 | .n=>.n
 | .v cs x is=>.v (bC cs x) is
 | .p is=>.p is
abbrev TS:=Nat->BV
def Sub (s:TS) (sA:Nat->AV):Prop:=∀t,s t = .n\/sA t=(s t).av
def ups {α:Type} (f:Nat->α) (d:Nat) (v:α) (t:Nat):α:=bif Nat.beq t d then v else f t
theorem amF {α:Type} (f:Nat->α) (d:Nat) (v:α):ups f d v=upd f d v:=by
 funext t;unfold ups upd;by_cases h:t=d
 ·subst h;simp
 ·have:Nat.beq t d=false:=by
   cases hb:Nat.beq t d with
   | false=>rfl
   | true=>exact absurd (Xc hb) h
  rw [this,if_neg h];rfl
def upz:TS->aa Nat->aa BV->TS
 | s,d::ds,v::vs=>ups (upz s ds vs) d v
 | s,_,_=>s
theorem Sub.ups {s:TS} {sA:Nat->AV} (h:Sub s sA) (d:Nat) (v:BV):Sub (ups s d v) (upd sA d v.av):=by
 intro t;rw [amF];unfold upd;by_cases ht:t=d
 ·rw [if_pos ht,if_pos ht];exact .inr rfl
 ·rw [if_neg ht,if_neg ht];exact h t
theorem Sub.upz {s:TS} {sA:Nat->AV} (h:Sub s sA):∀(ds:aa Nat) (vs:aa BV),Sub (upz s ds vs) (aC sA (ds.zip (vs.map BV.av)))
 | [],_=>by simpa [Fw.upz,aC] using h
 | d::ds,[]=>by simpa [Fw.upz,aC] using h
 | d::ds,v::vs=>by
  have:=(h.upz ds vs).ups d v;intro t;rcases this t with h1|h1
  ·exact .inl h1
  ·right;simp only [Fw.upz,bf,J7,aC];unfold upd at h1;exact h1
structure SV where
 t:TY
 x:l_ t
def SV.is (y:SV) (v:aj):Prop:=enc y.t y.x = .v v/\sc v=true
def DX.c' {B:Type} (s:TS) (k:SV->ah B):DX->ah B
 | .t i=>match s i with
  | .v [.b] x _=>k ⟨.b,x⟩
  | .v [.i n] x _=>k ⟨.i n,x⟩
  | .v [.s] x _=>k ⟨.s,x⟩
  | _=>none
 | .c v=>match v with
  | .bool b=>k ⟨.b,b⟩
  | .int n x=>k ⟨.i n,x⟩
  | .string x=>k ⟨.s,x⟩
  | _=>none
theorem OQ {B:Type} {s:TS} {sA:Nat->AV} (hs:Sub s sA) {k:SV->ah B} {a:B} {X:DX} (h:X.c' s k=some a):∃y v,X.get sA=some v/\SV.is y v/\k y=some a:=by
 cases X with
 | t i=>
  simp only [DX.c'] at h;split at h
  ·rename_i x is hi;have:=(hs i).resolve_left (by rw [hi];simp);rw [hi] at this;refine ⟨_,(.bool x:aj),?_,⟨by simp only [enc],rfl⟩,h⟩;simp only [DX.get,this,BV.av,bC,enc]
  ·rename_i n x is hi;have:=(hs i).resolve_left (by rw [hi];simp);rw [hi] at this;refine ⟨_,(.int n x:aj),?_,⟨by simp only [enc],rfl⟩,h⟩;simp only [DX.get,this,BV.av,bC,enc]
  ·rename_i x is hi;have:=(hs i).resolve_left (by rw [hi];simp);rw [hi] at this;refine ⟨_,(.string x:aj),?_,⟨by simp only [enc],rfl⟩,h⟩;simp only [DX.get,this,BV.av,bC,enc]
  ·cases h
 | c v=>
  cases v<;>simp only [DX.c'] at h<;>first
   | cases h
   | exact ⟨_,_,rfl,⟨rfl,rfl⟩,h⟩
def DXs.c' {B:Type} (s:TS):aa DX->(aa SV->ah B)->ah B
 | [],k=>k []
 | X::Xs,k=>X.c' s fun y=>DXs.c' s Xs fun ys=>k (y::ys)
def MQ:aa SV->aa aj->Prop
 | [],[]=>True
 | y::ys,v::vs=>SV.is y v/\MQ ys vs
 | _,_=>False
theorem amG {B:Type} {s:TS} {sA:Nat->AV} (hs:Sub s sA):∀{Xs:aa DX} {k:aa SV->ah B} {a:B},DXs.c' s Xs k=some a->∃ys vs,DXs sA Xs=some vs/\MQ ys vs/\k ys=some a
 | [],k,a,h=>⟨[],[],rfl,trivial,h⟩
 | X::Xs,k,a,h=>by
  simp only [DXs.c'] at h;obtain ⟨y,v,h1,h2,h3⟩:=OQ hs h;obtain ⟨ys,vs,h4,h5,h6⟩:=amG hs h3;exact ⟨y::ys,v::vs,by simp only [DXs,h1,h4],⟨h2,h5⟩,h6⟩
def awl (op:BinOp) (a b:Int):ah Bool:=
 match op with
 | .eql=>some (decide (a=b))
 | .neq=>some (!decide (a=b))
 | .lss=>some (decide (a<b))
 | .leq=>some (decide (a<=b))
 | .gtr=>some (decide (b<a))
 | .geq=>some (decide (b<=a))
 | _=>none
theorem az6 (op:BinOp) (a b:Int):awl op a b=intCmp op a b:=by
 cases op<;>simp only [awl,intCmp]<;>first
  | rfl
  | (congr 1;rw [Bool.eq_iff_iff];simp)
def bnd {B:Type} (len:Nat) (i:Int) (k:Nat->ah B):ah B:=if 0<=i/\i.toNat<len then k i.toNat else none
def ahS {B:Type} (op:BinOp) (k:IntKind) (a b:Int) (K:SV->ah B):ah B:=
 match op with
 | .add=>K ⟨.i k,k.wrap (a+b)⟩
 | .sub=>K ⟨.i k,k.wrap (a-b)⟩
 | .mul=>K ⟨.i k,k.wrap (a*b)⟩
 | .quo=>cond (decide (b=0)) none (K ⟨.i k,k.wrap (a.tdiv b)⟩)
 | .rem=>cond (decide (b=0)) none (K ⟨.i k,a.tmod b⟩)
 | .and=>K ⟨.i k,bits .and k a b⟩
 | .or=>K ⟨.i k,bits .or k a b⟩
 | .xor=>K ⟨.i k,bits .xor k a b⟩
 | .andNot=>K ⟨.i k,bits .andNot k a b⟩
 | .eql=>K ⟨.b,decide (a=b)⟩
 | .neq=>K ⟨.b,!decide (a=b)⟩
 | .lss=>K ⟨.b,decide (a<b)⟩
 | .leq=>K ⟨.b,decide (a<=b)⟩
 | .gtr=>K ⟨.b,decide (b<a)⟩
 | .geq=>K ⟨.b,decide (b<=a)⟩
 | .shl=>cond (decide (b<0)) none (K ⟨.i k,k.wrap (a*2 ^ (Nat.min b.toNat k.bits))⟩)
 | .shr=>cond (decide (b<0)) none (K ⟨.i k,a.fdiv (2 ^ (Nat.min b.toNat k.bits))⟩)
def acf:BinOp->Bool
 | .shl=>true
 | .shr=>true
 | _=>false
def awm {B:Type} (op:BinOp) (a b:ByteArray) (K:SV->ah B):ah B:=
 match op with
 | .add=>cond (decide (a.size+b.size<=4611686018427387904)) (K ⟨.s,a++b⟩) none
 | .eql=>K ⟨.b,a.toList == b.toList⟩
 | .neq=>K ⟨.b,!(a.toList == b.toList)⟩
 | .lss=>K ⟨.b,Op.bytesLess a.toList b.toList⟩
 | .leq=>K ⟨.b,Op.bytesLess a.toList b.toList || a.toList == b.toList⟩
 | .gtr=>K ⟨.b,!(Op.bytesLess a.toList b.toList || a.toList == b.toList)⟩
 | .geq=>K ⟨.b,!Op.bytesLess a.toList b.toList⟩
 | _=>none
abbrev dI {k:IntKind} (x:l_ (.i k)):Int:=x
abbrev dB (x:l_ .b):Bool:=x
abbrev dS (x:l_ .s):ByteArray:=x
def dfC {B:Type} (f:DF) (xs:aa SV) (K:SV->ah B):ah B:=
 match f,xs with
 | .bin op,[⟨.i k,a⟩,⟨.i k',b⟩]=>bif acf op || decide (k=k') then ahS op k (dI a) (dI b) K else none
 | .bin op,[⟨.s,a⟩,⟨.s,b⟩]=>awm op (dS a) (dS b) K
 | .beq ne,[⟨.b,a⟩,⟨.b,b⟩]=>K ⟨.b,bif ne then !(dB a == dB b) else dB a == dB b⟩
 | .not,[⟨.b,a⟩]=>K ⟨.b,!(dB a)⟩
 | .neg,[⟨.i k,a⟩]=>K ⟨.i k,k.wrap (0-dI a)⟩
 | .conv k,[⟨.i _,a⟩]=>K ⟨.i k,k.wrap (dI a)⟩
 | .min,[⟨.i k,a⟩,⟨.i _,b⟩]=>K ⟨.i k,if dI b<dI a then dI b else dI a⟩
 | .max,[⟨.i k,a⟩,⟨.i _,b⟩]=>K ⟨.i k,if dI b > dI a then dI b else dI a⟩
 | .sidx,[⟨.s,s⟩,⟨.i _,i⟩]=>bnd (dS s).size (dI i) fun n=>Option.bind (dS s)[n]? fun b=>K ⟨.i .u8,(b.toNat:Int)⟩
 | .slen,[⟨.s,s⟩]=>K ⟨.i .i64,((dS s).size:Int)⟩
 | .ssl lo hi,⟨.s,s⟩::is=>match lo,hi,is with
  | false,false,[]=>K ⟨.s,(dS s).extract 0 (dS s).size⟩
  | true,false,[⟨.i _,l⟩]=>cond (decide (0<=dI l/\dI l<=(dS s).size)) (K ⟨.s,(dS s).extract (dI l).toNat (dS s).size⟩) none
  | false,true,[⟨.i _,h⟩]=>cond (decide (0<=dI h/\dI h<=(dS s).size)) (K ⟨.s,(dS s).extract 0 (dI h).toNat⟩) none
  | true,true,[⟨.i _,l⟩,⟨.i _,h⟩]=>cond (decide (0<=dI l/\dI l<=dI h/\dI h<=(dS s).size)) (K ⟨.s,(dS s).extract (dI l).toNat (dI h).toNat⟩) none
  | _,_,_=>none
 | _,_=>none
theorem f_ {y:SV} {ys:aa SV} {vs:aa aj} (h:MQ (y::ys) vs):∃v vs',vs=v::vs'/\SV.is y v/\MQ ys vs':=by
 cases vs with
 | nil=>simp [MQ] at h
 | cons v vs=>exact ⟨v,vs,rfl,h.1,h.2⟩
theorem kZ {vs:aa aj} (h:MQ [] vs):vs=[]:=by
 cases vs with
 | nil=>rfl
 | cons=>simp [MQ] at h
theorem vM {k:IntKind} {a:l_ (.i k)} {v:aj} (h:SV.is ⟨.i k,a⟩ v):v = .int k a:=by
 have:=h.1;simp only [enc,A.v.injEq] at this;exact this.symm
theorem awn {a:l_ .b} {v:aj} (h:SV.is ⟨.b,a⟩ v):v = .bool a:=by
 have:=h.1;simp only [enc,A.v.injEq] at this;exact this.symm
theorem ahT {a:l_ .s} {v:aj} (h:SV.is ⟨.s,a⟩ v):v = .string a:=by
 have:=h.1;simp only [enc,A.v.injEq] at this;exact this.symm
theorem iD {B:Type} {c:Bool} {x y:ah B} {a:B} (h:cond c x y=some a):(c=true/\x=some a)\/(c=false/\y=some a):=by
 cases c
 ·exact .inr ⟨rfl,h⟩
 ·exact .inl ⟨rfl,h⟩
theorem XR (k:IntKind) (a:Int):SV.is ⟨.i k,a⟩ (.int k a):=⟨by simp only [enc],rfl⟩
theorem isB (a:Bool):SV.is ⟨.b,a⟩ (.bool a):=⟨by simp only [enc],rfl⟩
theorem isS (a:ByteArray):SV.is ⟨.s,a⟩ (.string a):=⟨by simp only [enc],rfl⟩
theorem az7 {B:Type} {op:BinOp} {k:IntKind} {a b:Int} {K:SV->ah B} {r:B} (h:ahS op k a b K=some r) (uo:acf op=false):∃y v,dfe (.bin op) [.int k a,.int k b]=some v/\SV.is y v/\K y=some r:=by
 cases op<;>simp only [ahS] at h<;>simp [acf] at uo<;>first
  | (refine ⟨_,_,?_,isB _,h⟩;simp only [dfe,Ot,<-az6,awl];rfl)
  | (rcases iD h with ⟨_,h2⟩|⟨h1,h2⟩
     ·cases h2
     ·simp only [decide_eq_false_iff_not] at h1
      refine ⟨_,_,?_,XR _ _,h2⟩;simp only [dfe,Ot,if_neg h1];rfl)
  | (refine ⟨_,_,?_,XR _ _,h⟩;simp only [dfe,Ot];rfl)
theorem az8 {B:Type} {op:BinOp} {k k':IntKind} {a b:Int} {K:SV->ah B} {r:B} (h:ahS op k a b K=some r) (uo:acf op=true):∃y v,dfe (.bin op) [.int k a,.int k' b]=some v/\SV.is y v/\K y=some r:=by
 cases op<;>simp [acf] at uo<;>simp only [ahS] at h <;>
  (rcases iD h with ⟨_,h2⟩|⟨h1,h2⟩
   ·cases h2
   ·simp only [decide_eq_false_iff_not] at h1
    refine ⟨_,_,?_,XR _ _,h2⟩;simp only [dfe,aoN,if_neg h1];rfl)
theorem az9 {B:Type} {op:BinOp} {a b:ByteArray} {K:SV->ah B} {r:B} (h:awm op a b K=some r):∃y v,dfe (.bin op) [.string a,.string b]=some v/\SV.is y v/\K y=some r:=by
 cases op<;>simp only [awm] at h<;>first
  | cases h
  | (refine ⟨_,_,?_,isB _,h⟩;simp only [dfe,ag1];rfl)
  | (rcases iD h with ⟨h1,h2⟩|⟨_,h2⟩
     ·simp only [decide_eq_true_eq] at h1
      refine ⟨_,_,?_,isS _,h2⟩;simp only [dfe,if_pos h1];rfl
     ·cases h2)
theorem ahU {B:Type} {len:Nat} {i:Int} {k:Nat->ah B} {a:B} (h:bnd len i k=some a):0<=i/\i.toNat<len/\k i.toNat=some a:=by
 unfold bnd at h;split at h
 ·rename_i hc;exact ⟨hc.1,hc.2,h⟩
 ·cases h
theorem aBx {B:Type} {f:DF} {xs:aa SV} {vs:aa aj} {K:SV->ah B} {r:B} (hx:MQ xs vs) (h:dfC f xs K=some r):∃y v,dfe f vs=some v/\SV.is y v/\K y=some r:=by
 unfold dfC at h;split at h
 ·rename_i op k a k' b;obtain ⟨v0,vs,rfl,g0,hx⟩:=f_ hx;obtain ⟨v1,vs,rfl,g1,hx⟩:=f_ hx;obtain rfl:=kZ hx;obtain rfl:=vM g0;obtain rfl:=vM g1;cases uo:acf op with
  | true=>
   rw [uo] at h;exact az8 h uo
  | false=>
   rw [uo] at h;by_cases hk:k=k'
   ·subst hk;simp only [decide_true,Bool.or_true,au] at h;exact az7 h uo
   ·simp [hk] at h
 ·obtain ⟨v0,vs,rfl,g0,hx⟩:=f_ hx;obtain ⟨v1,vs,rfl,g1,hx⟩:=f_ hx;obtain rfl:=kZ hx;obtain rfl:=ahT g0;obtain rfl:=ahT g1;exact az9 h
 ·rename_i ne a b;obtain ⟨v0,vs,rfl,g0,hx⟩:=f_ hx;obtain ⟨v1,vs,rfl,g1,hx⟩:=f_ hx;obtain rfl:=kZ hx;obtain rfl:=awn g0;obtain rfl:=awn g1;refine ⟨_,_,?_,isB _,h⟩;cases ne<;>rfl
 ·obtain ⟨v0,vs,rfl,g0,hx⟩:=f_ hx;obtain rfl:=kZ hx;obtain rfl:=awn g0;exact ⟨_,_,rfl,isB _,h⟩
 ·obtain ⟨v0,vs,rfl,g0,hx⟩:=f_ hx;obtain rfl:=kZ hx;obtain rfl:=vM g0;exact ⟨_,_,rfl,XR _ _,h⟩
 ·obtain ⟨v0,vs,rfl,g0,hx⟩:=f_ hx;obtain rfl:=kZ hx;obtain rfl:=vM g0;exact ⟨_,_,rfl,XR _ _,h⟩
 ·obtain ⟨v0,vs,rfl,g0,hx⟩:=f_ hx;obtain ⟨v1,vs,rfl,g1,hx⟩:=f_ hx;obtain rfl:=kZ hx;obtain rfl:=vM g0;obtain rfl:=vM g1;exact ⟨_,_,rfl,XR _ _,h⟩
 ·obtain ⟨v0,vs,rfl,g0,hx⟩:=f_ hx;obtain ⟨v1,vs,rfl,g1,hx⟩:=f_ hx;obtain rfl:=kZ hx;obtain rfl:=vM g0;obtain rfl:=vM g1;exact ⟨_,_,rfl,XR _ _,h⟩
 ·rename_i s k i;obtain ⟨v0,vs,rfl,g0,hx⟩:=f_ hx;obtain ⟨v1,vs,rfl,g1,hx⟩:=f_ hx;obtain rfl:=kZ hx;obtain rfl:=ahT g0;obtain rfl:=vM g1;obtain ⟨h3,_,h4⟩:=ahU h;simp only [CR] at h4;obtain ⟨b,h5,h6⟩:=h4;refine ⟨_,_,?_,XR _ _,h6⟩;simp only [dfe];rw [if_pos h3];show ((dS s)[(dI i).toNat]?).map _=_;rw [h5];rfl
 ·obtain ⟨v0,vs,rfl,g0,hx⟩:=f_ hx;obtain rfl:=kZ hx;obtain rfl:=ahT g0;exact ⟨_,_,rfl,XR _ _,h⟩
 ·obtain ⟨v,vs,rfl,h1,hx⟩:=f_ hx;obtain rfl:=ahT h1;split at h
  ·obtain rfl:=kZ ‹MQ [] _›;exact ⟨_,_,rfl,isS _,h⟩
  ·have hx := ‹MQ (_::_) vs›;obtain ⟨v0,vs,rfl,g0,hx⟩:=f_ hx;obtain rfl:=kZ hx;obtain rfl:=vM g0;rcases iD h with ⟨h3,h4⟩|⟨_,h4⟩
   ·simp only [decide_eq_true_eq] at h3;refine ⟨_,_,?_,isS _,h4⟩;simp only [dfe];exact if_pos h3
   ·cases h4
  ·have hx := ‹MQ (_::_) vs›;obtain ⟨v0,vs,rfl,g0,hx⟩:=f_ hx;obtain rfl:=kZ hx;obtain rfl:=vM g0;rcases iD h with ⟨h3,h4⟩|⟨_,h4⟩
   ·simp only [decide_eq_true_eq] at h3;refine ⟨_,_,?_,isS _,h4⟩;simp only [dfe];exact if_pos h3
   ·cases h4
  ·have hx := ‹MQ (_::_) vs›;obtain ⟨v0,vs,rfl,g0,hx⟩:=f_ hx;obtain ⟨v1,vs,rfl,g1,hx⟩:=f_ hx;obtain rfl:=kZ hx;obtain rfl:=vM g0;obtain rfl:=vM g1;rcases iD h with ⟨h3,h4⟩|⟨_,h4⟩
   ·simp only [decide_eq_true_eq] at h3;refine ⟨_,_,?_,isS _,h4⟩;simp only [dfe];exact if_pos h3
   ·cases h4
  ·cases h
 ·cases h
end Go.Fw
namespace Go.Fw
def vg {B:Type} (s:TS) (t:Nat) (k:(cs:aa TY)->bg cs->aa Nat->ah B):ah B:=
 match s t with
 | .v cs x is=>k cs x is
 | _=>none
def Dg {B:Type} (s:TS) (t:Nat) (k:(e:aa TY)->aa (bg e)->aa Nat->ah B):ah B:=
 match s t with
 | .v [.sl e] l is=>k e l is
 | _=>none
section
variable {B:Type} {s:TS} {sA:Nat->AV} {a:B}
theorem nY (hs:Sub s sA) {t:Nat} {k:(cs:aa TY)->bg cs->aa Nat->ah B} (h:vg s t k=some a):∃cs x is,sA t = .v (bC cs x) is/\k cs x is=some a:=by
 unfold vg at h;split at h
 ·rename_i cs x is ht;have:=(hs t).resolve_left (by rw [ht];simp);rw [ht] at this;exact ⟨cs,x,is,this,h⟩
 ·cases h
theorem tJ {t:Nat} {as:aa A} {is:aa Nat} (h:sA t = .v as is):iM t sA=some as:=by
 simp only [iM,h]
theorem vN (hs:Sub s sA) {t:Nat} {k:(e:aa TY)->aa (bg e)->aa Nat->ah B} (h:Dg s t k=some a):∃e l is,vI t sA=some (List.map (bC e) l,is)/\k e l is=some a:=by
 unfold Dg at h;split at h
 ·rename_i e l is ht;have:=(hs t).resolve_left (by rw [ht];simp);rw [ht] at this;refine ⟨e,l,is,?_,h⟩;simp only [vI,this,BV.av,bC,enc]
 ·cases h
end
inductive IX where
 | nil
 | t (i:Nat)
def IX.f:IX->(Nat->AV)->ah (aa Nat)
 | .nil=>fun _=>some []
 | .t i=>aoQ i
def IX.c {B:Type} (s:TS) (k:aa Nat->ah B):IX->ah B
 | .nil=>k []
 | .t i=>match s i with
  | .p is=>k is
  | _=>none
inductive OY where
 | t (i:Nat)
 | c (cs:List TY) (vs:List Value)
def OY.f:OY->(Nat->AV)->ah (aa A)
 | .t i=>iM i
 | .c cs vs=>fun _=>(ahR cs vs).map (bC cs)
def OY.c' {B:Type} (s:TS) (k:(cs:aa TY)->bg cs->ah B):OY->ah B
 | .t i=>match s i with
  | .v cs x _=>k cs x
  | _=>none
 | .c cs vs=>match ahR cs vs with
  | some x=>k cs x
  | none=>none
section
variable {B:Type} {s:TS} {sA:Nat->AV} {a:B}
theorem apf (hs:Sub s sA) {X:IX} {k:aa Nat->ah B} (h:X.c s k=some a):∃is,X.f sA=some is/\k is=some a:=by
 cases X with
 | nil=>exact ⟨[],rfl,h⟩
 | t i=>
  simp only [IX.c] at h;split at h
  ·rename_i is hi;have:=(hs i).resolve_left (by rw [hi];simp);rw [hi] at this;exact ⟨is,by simp only [IX.f,aoQ,this,BV.av],h⟩
  ·cases h
theorem Kw (hs:Sub s sA) {X:OY} {k:(cs:aa TY)->bg cs->ah B} (h:X.c' s k=some a):∃cs x,X.f sA=some (bC cs x)/\k cs x=some a:=by
 cases X with
 | t i=>
  simp only [OY.c'] at h;split at h
  ·rename_i cs x is hi;have:=(hs i).resolve_left (by rw [hi];simp);rw [hi] at this;exact ⟨cs,x,by simp only [OY.f,iM,this,BV.av],h⟩
  ·cases h
 | c cs vs=>
  simp only [OY.c'] at h;split at h
  ·rename_i x hx;exact ⟨cs,x,by simp only [OY.f,hx,dx],h⟩
  ·cases h
end
inductive ED where
 | data (f:DF) (Xs:List DX)
 | copy (t:Nat)
 | same (t:Nat)
 | p0
 | nl
 | lit (cs:List TY) (vs:List Value)
 | load (r:Nat) (sk:Sk) (off:Nat) (ix:IX) (n:Nat) (al:Bool)
 | idx (ix:IX)
 | index (t:Nat) (I:DX)
 | a (X:OY)
 | store (r:Nat) (sk:Sk) (off:Nat) (ix:IX) (V:OY)
 | len (t:Nat)
 | app (X:Option Nat) (yt:Nat)
 | build (Z:List TY) (qs:List (Nat × OY))
 | sli (e:List TY) (qs:List OY)
 | make (X:DX) (e:List TY)
 | ext (t off n:Nat)
 | res (t:Nat) (L H:Option DX)
 | eqA (ks:List EK) (X Y:OY) (ne:Bool)
 | bytes (t:Nat)
def zM (X:OY):OX:=⟨true,[],0,true,X.f,[]⟩
def awo:ah Nat->HX
 | none=>.nil
 | some t=>.t t []
def ED.f:ED->(Nat->AV)->ah (aa AV)
 | .data f Xs=>Sc f Xs
 | .copy t=>gP t
 | .same t=>zx t
 | .p0=>fun _=>some [.p []]
 | .nl=>fun _=>some [.n]
 | .lit cs vs=>fun _=>(ahR cs vs).map fun x=>[.v (bC cs x) []]
 | .load r sk off ix n al=>DR ⟨r,sk,off,[],ix.f,[]⟩ n al
 | .idx ix=>Xw ⟨0,[],0,[],ix.f,[]⟩
 | .index t I=>Kk ⟨0,[],0,[],[],t⟩ I
 | .a X=>abV (zM X)
 | .store r sk off ix V=>nX ⟨r,sk,off,[],ix.f,[]⟩ (zM V)
 | .len t=>Xy t
 | .app X yt=>Be (awo X) yt
 | .build Z qs=>Km (bC Z (zL Z)) (qs.map fun q=>⟨q.1,zM q.2⟩)
 | .sli _ qs=>XD (qs.map fun q=>⟨0,zM q⟩)
 | .make X e=>Si X (bC e (zL e))
 | .ext t off n=>uD t off n
 | .res t L H=>Bg t L H
 | .eqA ks X Y ne=>XG ks X.f Y.f ne
 | .bytes t=>Kq t
def apg {B:Type} (s:TS) (X:DX) (k:Nat->ah B):ah B:=
 X.c' s fun y=>match y with
  | ⟨.i _,n⟩=>cond (decide (0<=dI n)) (k (dI n).toNat) none
  | _=>none
def bdC {B:Type} (s:TS) (d:Nat) (X:ah DX) (k:Nat->ah B):ah B:=
 match X with
 | none=>k d
 | some X=>apg s X k
def aph {B:Type} (s:TS) (Z:aa TY):aa (Nat × OY)->bg Z->(bg Z->ah B)->ah B
 | [],x,k=>k x
 | (o,X)::qs,x,k=>X.c' s fun cs y=>HZ Z x o cs y fun x'=>aph s Z qs x' k
def api {B:Type} (s:TS) (e:aa TY):aa OY->(aa (bg e)->ah B)->ah B
 | [],k=>k []
 | X::qs,k=>X.c' s fun cs y=>tH cs e y fun y'=>api s e qs fun l=>k (y'::l)
def VL {B:Type}:aa EK->(cs:aa TY)->bg cs->(cs':aa TY)->bg cs'->(Bool->ah B)->ah B
 | [],[],_,[],_,k=>k true
 | .b::ks,.b::cs,x,.b::cs',y,k=>VL ks cs (jO x) cs' (jO y) fun r=>k ((dB (gW x) == dB (gW y))&&r)
 | .i::ks,.i i::cs,x,.i i'::cs',y,k=>bif decide (i=i') then VL ks cs (jO x) cs' (jO y) fun r=>k (decide (dI (gW x)=dI (gW y))&&r) else none
 | .s::ks,.s::cs,x,.s::cs',y,k=>VL ks cs (jO x) cs' (jO y) fun r=>k (((dS (gW x)).toList == (dS (gW y)).toList)&&r)
 | _,_,_,_,_,_=>none
def ED.c {B:Type} (s:TS) (k:aa BV->ah B):ED->ah B
 | .data f Xs=>DXs.c' s Xs fun ys=>dfC f ys fun y=>k [.v [y.t] y.x []]
 | .copy t=>vg s t fun cs x _=>k [.v cs x []]
 | .same t=>match s t with
  | .n=>none
  | .v cs x is=>k [.v cs x is]
  | .p is=>k [.p is]
 | .p0=>k [.p []]
 | .nl=>k [.n]
 | .lit cs vs=>match ahR cs vs with
  | some x=>k [.v cs x []]
  | none=>none
 | .load r sk off ix n al=>ix.c s fun is=>vg s r fun cs x _=>SC cs x sk is fun cs' y=>ahO cs' y off n fun cs'' z=>k [.v cs'' z (bif al then is else [])]
 | .idx ix=>ix.c s fun is=>k [.p is]
 | .index t I=>Dg s t fun _ l is=>I.c' s fun y=>match y with
  | ⟨.i _,i⟩=>bnd l.length (dI i) fun n=>k [.p (is++[n])]
  | _=>none
 | .a X=>X.c' s fun cs x=>k [.v cs x []]
 | .store r sk off ix V=>ix.c s fun is=>vg s r fun cs x _=>V.c' s fun cs' y=>VK (fun e row k'=>HZ e row off cs' y k') cs x sk is fun z=>k [.v cs z []]
 | .len t=>Dg s t fun _ l _=>k [.v [.i .i64] (l.length:Int) []]
 | .app none yt=>Dg s yt fun e l _=>cond (decide (l.length<=4294967296)) (k [.v [.sl e] l []]) none
 | .app (some t) yt=>Dg s t fun e l _=>Dg s yt fun e' l' _=>agC (.sl e') (.sl e) l' fun l'=>cond (decide (l.length+(Ei l').length<=4294967296)) (k [.v [.sl e] (l++Ei l') []]) none
 | .build Z qs=>aph s Z qs (zL Z) fun x=>k [.v Z x []]
 | .sli e qs=>api s e qs fun l=>k [.v [.sl e] l []]
 | .make X e=>apg s X fun n=>cond (decide (n<=4294967296)) (k [.v [.sl e] (List.replicate n (zL e)) []]) none
 | .ext t off n=>vg s t fun cs x _=>ahO cs x off n fun cs' y=>k [.v cs' y []]
 | .res t L H=>Dg s t fun e l _=>bdC s 0 L fun lo=>bdC s l.length H fun hi=>cond (decide (lo<=hi/\hi<=l.length)) (k [.v [.sl e] ((l.drop lo).take (hi-lo)) []]) none
 | .eqA ks X Y ne=>X.c' s fun cs x=>Y.c' s fun cs' y=>VL ks cs x cs' y fun r=>k [.v [.b] (bif ne then !r else r) []]
 | .bytes t=>Dg s t fun e l _=>match e,l with
  | [.i .u8],l=>k [.v [.s] (dW l) []]
  | _,_=>none
section
variable {B:Type} {s:TS} {sA:Nat->AV} {a:B}
theorem az_:∀{ks:aa EK} {cs:aa TY} {x:bg cs} {cs':aa TY} {y:bg cs'} {k:Bool->ah B},VL ks cs x cs' y k=some a ->
  ∃xs ys r,I6 (bC cs x)=some xs/\I6 (bC cs' y)=some ys/\mW ks xs ys=some r/\k r=some a:=by
 intro ks;induction ks with
 | nil=>
  intro cs x cs' y k h;cases cs<;>cases cs'<;>simp [VL] at h;exact ⟨[],[],true,rfl,rfl,rfl,h⟩
 | cons e ks ih=>
  intro cs x cs' y k h;unfold VL at h;split at h
  ·rename_i h1;cases h1
  ·rename_i h1;cases h1;rename_i cs x cs' y;obtain ⟨xs,ys,r,g1,g2,g3,g4⟩:=ih h;refine ⟨.bool (gW x)::xs,.bool (gW y)::ys,_,?_,?_,?_,g4⟩
   ·rw [eu];simp only [enc,I6,g1,dx]
   ·rw [eu];simp only [enc,I6,g2,dx]
   ·simp only [mW,g3,dx]<;>rfl
  ·rename_i h1;cases h1;rcases iD h with ⟨h2,h⟩|⟨_,h⟩
   ·simp only [decide_eq_true_eq] at h2;subst h2;rename_i i0 cs x cs' y _;obtain ⟨xs,ys,r,g1,g2,g3,g4⟩:=ih h;refine ⟨.int i0 (gW x)::xs,.int i0 (gW y)::ys,_,?_,?_,?_,g4⟩
    ·rw [eu];simp only [enc,I6,g1,dx]
    ·rw [eu];simp only [enc,I6,g2,dx]
    ·simp only [mW,g3,dx,if_true];rfl
   ·cases h
  ·rename_i h1;cases h1;rename_i cs x cs' y;obtain ⟨xs,ys,r,g1,g2,g3,g4⟩:=ih h;refine ⟨.string (gW x)::xs,.string (gW y)::ys,_,?_,?_,?_,g4⟩
   ·rw [eu];simp only [enc,I6,g1,dx]
   ·rw [eu];simp only [enc,I6,g2,dx]
   ·simp only [mW,g3,dx]<;>rfl
  ·cases h
theorem bytesOf_map:∀l:aa Int,bytesOf (List.map (bC [.i .u8]) l)=some l
 | []=>rfl
 | n::l=>by
  show bytesOf ([enc (.i .u8) n]::List.map (bC [.i .u8]) l)=_;simp only [enc,bytesOf,bytesOf_map l,dx]
theorem amH (hs:Sub s sA) {X:DX} {k:Nat->ah B} (h:apg s X k=some a):∃v n,X.get sA=some v/\toN v=some n/\k n=some a:=by
 unfold apg at h;obtain ⟨y,v,h1,h2,h3⟩:=OQ hs h;split at h3
 ·obtain rfl:=vM h2;rcases iD h3 with ⟨h4,h5⟩|⟨_,h5⟩
  ·simp only [decide_eq_true_eq] at h4;exact ⟨_,_,h1,by simp only [toN];exact if_pos h4,h5⟩
  ·cases h5
 ·cases h3
theorem asX (hs:Sub s sA) {X:ah DX} {d:Nat} {k:Nat->ah B} (h:bdC s d X k=some a):∃n,Bf sA d X=some n/\k n=some a:=by
 cases X with
 | none=>exact ⟨d,rfl,h⟩
 | some X=>
  simp only [bdC] at h;obtain ⟨v,n,h1,h2,h3⟩:=amH hs h;exact ⟨n,by simp only [Bf,h1,h2],h3⟩
theorem amI (hs:Sub s sA) {Z:aa TY}:∀{qs:aa (Nat × OY)} {x:bg Z} {k:bg Z->ah B},aph s Z qs x k=some a ->
  ∃ass y,tC sA (qs.map fun q=>⟨q.1,zM q.2⟩)=some ass/\bC Z y=spl (bC Z x) ((XB (qs.map fun q=>⟨q.1,zM q.2⟩)).zip ass)/\k y=some a
 | [],x,k,h=>⟨[],x,rfl,rfl,h⟩
 | (o,X)::qs,x,k,h=>by
  simp only [aph] at h;obtain ⟨cs,y,h1,h2⟩:=Kw hs h;obtain ⟨x',h3,h4⟩:=Jc h2;obtain ⟨ass,z,h5,h6,h7⟩:=amI hs h3;refine ⟨bC cs y::ass,z,?_,?_,h7⟩
  ·simp only [bf,tC,zM];rw [h1];simp only [zM] at h5;rw [h5]
  ·rw [h6,h4];rfl
theorem amJ (hs:Sub s sA) {e:aa TY}:∀{qs:aa OY} {k:aa (bg e)->ah B},api s e qs k=some a ->
  ∃l:aa (bg e),tC sA (qs.map fun q=>⟨0,zM q⟩)=some (l.map (bC e))/\k l=some a
 | [],k,h=>⟨[],rfl,h⟩
 | X::qs,k,h=>by
  simp only [api] at h;obtain ⟨cs,y,h1,h2⟩:=Kw hs h;obtain ⟨y',h3,h4⟩:=rW h2;obtain ⟨l,h5,h6⟩:=amJ hs h3;refine ⟨y'::l,?_,h6⟩;simp only [bf,tC,zM];rw [h1,h4];simp only [zM] at h5;rw [h5]
theorem aBy (hs:Sub s sA) {e:ED} {k:aa BV->ah B} (h:e.c s k=some a):∃vs,e.f sA=some (vs.map BV.av)/\k vs=some a:=by
 cases e with
 | data f Xs=>
  simp only [ED.c] at h;obtain ⟨ys,vs,h1,h2,h3⟩:=amG hs h;obtain ⟨y,v,h4,h5,h6⟩:=aBx h2 h3;refine ⟨_,?_,h6⟩;simp only [ED.f,Sc,h1,h4,bf,bQ,BV.av];show _=some [AV.v (bC [y.t] y.x) []];rw [show bC [y.t] y.x=[enc y.t y.x] from by simp only [bC],h5.1]
 | copy t=>
  simp only [ED.c] at h;obtain ⟨cs,x,is,h1,h2⟩:=nY hs h;exact ⟨_,by simp only [ED.f,gP,tJ h1,dx,bf,bQ,BV.av],h2⟩
 | same t=>
  simp only [ED.c] at h;split at h
  ·cases h
  ·rename_i cs x is ht;have:=(hs t).resolve_left (by rw [ht];simp);rw [ht] at this;exact ⟨_,by simp only [ED.f,zx,this,bf,bQ],h⟩
  ·rename_i is ht;have:=(hs t).resolve_left (by rw [ht];simp);rw [ht] at this;exact ⟨_,by simp only [ED.f,zx,this,bf,bQ],h⟩
 | p0=>exact ⟨_,rfl,h⟩
 | nl=>exact ⟨_,rfl,h⟩
 | lit cs vs=>
  simp only [ED.c] at h;split at h
  ·rename_i x hx;exact ⟨_,by simp only [ED.f,hx,dx,bf,bQ,BV.av],h⟩
  ·cases h
 | load r sk off ix n al=>
  simp only [ED.c] at h;obtain ⟨is,h1,h2⟩:=apf hs h;obtain ⟨cs,x,is',h3,h4⟩:=nY hs h2;obtain ⟨e,y,h5,h6⟩:=ahQ h4;obtain ⟨cs',z,h7,h8⟩:=acb (cs:=e) (x:=y) (off:=off) (n:=n) (k:=fun cs'' z=>k [.v cs'' z (bif al then is else [])]);rw [h7] at h6;refine ⟨_,?_,h6⟩;simp only [ED.f,DR,Xv,h1,tJ h3,h5,bf,bQ,BV.av,h8];cases al<;>rfl
 | idx ix=>
  simp only [ED.c] at h;obtain ⟨is,h1,h2⟩:=apf hs h;exact ⟨_,by simp only [ED.f,Xw,h1,dx,bf,bQ,BV.av],h2⟩
 | index t I=>
  simp only [ED.c] at h;obtain ⟨e,l,is,h1,h2⟩:=vN hs h;obtain ⟨y,v,h3,h4,h5⟩:=OQ hs h2;split at h5
  ·obtain rfl:=vM h4;obtain ⟨h6,h7,h8⟩:=ahU h5;refine ⟨_,?_,h8⟩;simp only [ED.f,Kk,h1,h3,toN];rw [if_pos h6];simp only [fE];rw [if_pos h7];rfl
  ·cases h5
 | a X=>
  simp only [ED.c] at h;obtain ⟨cs,x,h1,h2⟩:=Kw hs h;exact ⟨_,by simp only [ED.f,abV,zM,h1,dx,bf,bQ,BV.av],h2⟩
 | store r sk off ix V=>
  simp only [ED.c] at h;obtain ⟨is,h1,h2⟩:=apf hs h;obtain ⟨cs,x,is',h3,h4⟩:=nY hs h2;obtain ⟨cs',y,h5,h6⟩:=Kw hs h4;obtain ⟨row,z,h7,h8,h9⟩:=ace (g:=fun row=>splice row off (bC cs' y)) (fun e y' k' hk=>by
   obtain ⟨z,g1,g2⟩:=Jc hk
   exact ⟨z,g1,g2⟩) h6
  refine ⟨_,?_,h8⟩;simp only [ED.f,nX,zM,h1,tJ h3,h5,h7,bf,bQ,BV.av,h9]
 | len t=>
  simp only [ED.c] at h;obtain ⟨e,l,is,h1,h2⟩:=vN hs h;refine ⟨_,?_,h2⟩;simp only [ED.f,Xy,h1,bf,bQ,BV.av,bC,enc,fE]
 | app X yt=>
  cases X with
  | none=>
   simp only [ED.c] at h;obtain ⟨e,l,is,h1,h2⟩:=vN hs h;rcases iD h2 with ⟨h3,h4⟩|⟨_,h4⟩
   ·simp only [decide_eq_true_eq] at h3;refine ⟨_,?_,h4⟩;simp only [ED.f,Be,awo,HX.get,h1,fE,bB,cB];rw [if_pos h3];simp only [dN,bf,bQ,BV.av,bC,enc]
   ·cases h4
  | some t=>
   simp only [ED.c] at h;obtain ⟨e,l,is,h1,h2⟩:=vN hs h;obtain ⟨e',l',is',h3,h4⟩:=vN hs h2;obtain ⟨l2,h5,h6⟩:=ahP h4;rcases iD h5 with ⟨h7,h8⟩|⟨_,h8⟩
   ·simp only [decide_eq_true_eq] at h7;refine ⟨_,?_,h8⟩;have h9:List.map (bC e) (Ei l2)=List.map (bC e') l':=by
     have h6':=(uG l2).symm.trans (h6.trans (uG (e:=e') l'));exact A.s.inj h6'
    have h10:(Ei l2).length=l'.length:=by simpa using congrArg List.length h9
    simp only [ED.f,Be,awo,HX.get,h1,h3,dx,fE];rw [h10] at h7;rw [if_pos h7];simp only [bf,bQ,BV.av,bC];rw [show enc (.sl e) (l++Ei l2) = .s (List.map (bC e) (l++Ei l2)) from uG (e:=e) (l++Ei l2),wV,h9]
   ·cases h8
 | build Z qs=>
  simp only [ED.c] at h;obtain ⟨ass,y,h1,h2,h3⟩:=amI hs h;refine ⟨_,?_,h3⟩;simp only [ED.f,Km,h1,bf,bQ,BV.av,h2]
 | sli e qs=>
  simp only [ED.c] at h;obtain ⟨l,h1,h2⟩:=amJ hs h;refine ⟨_,?_,h2⟩;simp only [ED.f,XD,h1,bf,bQ,BV.av,bC,enc]
 | make X e=>
  simp only [ED.c] at h;obtain ⟨v,n,h1,h2,h3⟩:=amH hs h;rcases iD h3 with ⟨h4,h5⟩|⟨_,h5⟩
  ·simp only [decide_eq_true_eq] at h4;refine ⟨_,?_,h5⟩;simp only [ED.f,Si,h1,h2];rw [if_pos h4];simp only [bf,bQ,BV.av,bC,enc];rw [List.map_replicate]
  ·cases h5
 | ext t off n=>
  simp only [ED.c] at h;obtain ⟨cs,x,is',h3,h4⟩:=nY hs h;obtain ⟨cs',z,h7,h8⟩:=acb (cs:=cs) (x:=x) (off:=off) (n:=n) (k:=fun cs' y=>k [.v cs' y []]);rw [h7] at h4;refine ⟨_,?_,h4⟩;simp only [ED.f,uD,tJ h3,dx,bf,bQ,BV.av,h8]
 | res t L H=>
  simp only [ED.c] at h;obtain ⟨e,l,is,h1,h2⟩:=vN hs h;obtain ⟨lo,h3,h4⟩:=asX hs h2;obtain ⟨hi,h5,h6⟩:=asX hs h4;rcases iD h6 with ⟨h7,h8⟩|⟨_,h8⟩
  ·simp only [decide_eq_true_eq] at h7;refine ⟨_,?_,h8⟩;simp only [ED.f,Bg,h1,h3,fE,h5];rw [if_pos h7];simp only [bf,bQ,BV.av,bC,enc,List.map_take,List.map_drop]
  ·cases h8
 | eqA ks X Y ne=>
  simp only [ED.c] at h;obtain ⟨cs,x,h1,h2⟩:=Kw hs h;obtain ⟨cs',y,h3,h4⟩:=Kw hs h2;obtain ⟨xs,ys,r,h5,h6,h7,h8⟩:=az_ h4;refine ⟨_,?_,h8⟩;simp only [ED.f,XG,h1,h3,h5,h6,h7,bf,bQ,BV.av,bC,enc];cases ne<;>rfl
 | bytes t=>
  simp only [ED.c] at h;obtain ⟨e,l,is,h1,h2⟩:=vN hs h;split at h2
  ·refine ⟨_,?_,h2⟩;rename_i l0;simp only [ED.f,Kq,h1];have hb:bytesOf (List.map (bC [.i .u8]) l0)=some l0:=bytesOf_map l0;generalize bytesOf (List.map (bC [.i .u8]) l0)=z at hb ⊢;subst hb;simp only [bf,bQ,BV.av,bC,enc]
  ·cases h2
end
end Go.Fw
namespace Go.Fw
def lZ:aa (aa TY)->Type
 | []=>Unit
 | [p]=>bg p
 | p::p'::ps=>bg p × lZ (p'::ps)
def qY:(ps:aa (aa TY))->lZ ps->aa (aa A)
 | [],_=>[]
 | [p],x=>[bC p x]
 | p::p'::ps,x=>bC p x.1::qY (p'::ps) x.2
def Bj {p:aa TY}:{ps:aa (aa TY)}->bg p->lZ ps->lZ (p::ps)
 | [],x,_=>x
 | _::_,x,r=>(x,r)
theorem Ky {p:aa TY} {ps:aa (aa TY)} (x:bg p) (r:lZ ps):qY (p::ps) (Bj x r)=bC p x::qY ps r:=by
 cases ps<;>simp [qY,Bj]
structure TSp where
 sg:aO
 ps:List (List TY)
 rs:List TY
 os:List TY
 j:Nat
 f:lZ ps->Option (bg rs × bg os)
def TSp.outs (sp:TSp) (o:bg sp.os):aa (aa A):=List.replicate sp.j []++[bC sp.os o]
def TSp.Ok (P:aR) (K:FuncId) (sp:TSp):Prop:=∀xs r o,sp.f xs=some (r,o)->Good P K sp.sg (qY sp.ps xs) (bC sp.rs r) (sp.outs o)
abbrev aN:=FuncId->Option TSp
inductive KT where
 | no
 | mt (r:Nat) (sk:Sk) (off t j:Nat)
 | mp (j:Nat)
def KT.sk:KT->SK
 | .no=>.no
 | .mt r sk off t j=>.mt r sk off 0 t j
 | .mp j=>.mp 0 [] [] j
inductive TE where
 | det (nu:Nat) (e:ED)
 | pick (c:Nat) (X Y:DX)
 | call (nu:Nat) (K:FuncId) (gets:List OY) (k:KT)
structure TO where
 al:Bool
 tks:List Nat
 hd:List Nat
 e:TE
 ds:List Nat
 d:Option Nat
 gd:Option (Nat × Bool)
structure PK where
 t:Nat
 cs:List TY
 al:Bool
inductive TC where
 | skip
 | rg (ops:List TO)
 | seq (a b:TC)
 | cond (X:DX) (a b:TC)
 | block (id:Nat) (b:TC)
 | loop (pk:List PK) (dd:Nat) (b:TC)
 | exit (id:Nat)
 | ret
 | join (pk:List PK) (dd:Nat) (pr:Option (List PK)) (a:TC)
structure WO where
 eff:Bool->Eff
 cb:(Nat->AV)->Option Bool
 ds:List Nat
 d:Option Nat
 gd:Option (Nat × Bool)
inductive WC where
 | skip
 | rg (ops:List WO)
 | seq (a b:WC)
 | cond (X:DX) (a b:WC)
 | block (id:Nat) (b:WC)
 | loop (b:WC)
 | exit (id:Nat)
 | ret
def OpR.wo (o:OpR):WO:=⟨fun b=>(o.S b).eff,o.cb,o.up.map (·.1),o.d,o.gd⟩
def CC.wc:CC->WC
 | .skip=>.skip
 | .rg rs=>.rg (rs.map OpR.wo)
 | .seq a b=>.seq a.wc b.wc
 | .cond X a b=>.cond X a.wc b.wc
 | .block id b=>.block id b.wc
 | .loop b=>.loop b.wc
 | .exit id=>.exit id
 | .ret=>.ret
def Di (rs:aa WO) (wl:aa Bool) (s:Nat->AV) (o:WO):Bool:=
 match o.gd with
 | none=>true
 | some (j,b)=>wl.getD j false&&(match (match rs[j]? with
   | some o=>o.d
   | none=>none) with
  | some t=>(match kT s t with
   | some c=>c == b
   | none=>false)
  | none=>false)
def p8 (P:aR) (rs:aa WO):aa WO->aa Bool->(Nat->AV)->((Nat->AV)->Prop)->Prop
 | [],_,s,K=>K s
 | o::os,wl,s,K=>if Di rs wl s o then ∃b v,o.cb s=some b/\(o.eff b).rel P s v/\p8 P rs os (wl++[true]) (aC s (o.ds.zip v)) K
  else p8 P rs os (wl++[false]) s K
def W2 (P:aR):WC->(Nat->AV)->(Ex->(Nat->AV)->Prop)->Prop
 | .skip,s,Q=>Q .normal s
 | .rg rs,s,Q=>p8 P rs rs [] s (Q .normal)
 | .seq a b,s,Q=>W2 P a s (agz (fun s=>W2 P b s Q) Q)
 | .cond X a b,s,Q=>∃c,X.get s=some (.bool c)/\if c then W2 P a s Q else W2 P b s Q
 | .block id b,s,Q=>W2 P b s (Ja id Q)
 | .loop b,s,Q=>∃n,rnd (W2 P b) Q n s
 | .exit id,s,Q=>Q (.exit id) s
 | .ret,s,Q=>Q .ret s
theorem awp (rs:aa OpR) (wl:aa Bool) (s:Nat->AV) (o:OpR):Di (rs.map OpR.wo) wl s o.wo=nM rs wl s o:=by
 unfold Di nM;show (match o.gd with|none=>true|some (j,b)=>_)=_;cases o.gd with
 | none=>rfl
 | some p=>
  obtain ⟨j,b⟩:=p;simp only [kz,Bi];cases rs[j]? with
  | none=>rfl
  | some oj=>rfl
theorem VM {P:aR} {rs:aa OpR}:∀{os:aa OpR} {wl:aa Bool} {s:Nat->AV} {K:(Nat->AV)->Prop},p8 P (rs.map OpR.wo) (os.map OpR.wo) wl s K->xq P rs os wl s K
 | [],_,_,_,h=>h
 | o::os,wl,s,K,h=>by
  simp only [bf,p8,awp] at h;simp only [xq];split
  ·rename_i hw;rw [if_pos hw] at h;obtain ⟨b,v,h1,h2,h3⟩:=h;exact ⟨b,v,h1,h2,VM h3⟩
  ·rename_i hw;rw [if_neg hw] at h;exact VM h
theorem VN {F F':(Nat->AV)->(Ex->(Nat->AV)->Prop)->Prop} (hF:∀s Q Q',(∀e s,Q e s->Q' e s)->F s Q->F' s Q'):∀{n:Nat} {s:Nat->AV} {Q Q':Ex->(Nat->AV)->Prop},(∀e s,Q e s->Q' e s)->rnd F Q n s->rnd F' Q' n s
 | 0,_,_,_,_,h=>h
 | n+1,s,Q,Q',hQ,h=>by
  simp only [rnd] at h ⊢;refine hF _ _ _ (fun e s h => ?_) h;cases e with
  | normal=>exact VN hF hQ h
  | exit id=>exact hQ _ _ h
  | ret=>exact hQ _ _ h
theorem Kz {P:aR} {rs:aa WO}:∀{os:aa WO} {wl:aa Bool} {s:Nat->AV} {K K':(Nat->AV)->Prop},(∀s,K s->K' s)->p8 P rs os wl s K->p8 P rs os wl s K'
 | [],_,_,_,_,hK,h=>hK _ h
 | o::os,wl,s,K,K',hK,h=>by
  simp only [p8] at h ⊢;split
  ·rename_i hw;rw [if_pos hw] at h;obtain ⟨b,v,h1,h2,h3⟩:=h;exact ⟨b,v,h1,h2,Kz hK h3⟩
  ·rename_i hw;rw [if_neg hw] at h;exact Kz hK h
theorem lg {P:aR}:∀{c:WC} {s:Nat->AV} {Q Q':Ex->(Nat->AV)->Prop},(∀e s,Q e s->Q' e s)->W2 P c s Q->W2 P c s Q'
 | .skip,s,_,_,hQ,h=>hQ _ _ h
 | .rg rs,s,_,_,hQ,h=>Kz (fun s=>hQ _ s) h
 | .seq a b,s,_,_,hQ,h=>by
  simp only [W2] at h ⊢;refine lg (fun e s h => ?_) h;cases e with
  | normal=>exact lg hQ h
  | exit id=>exact hQ _ _ h
  | ret=>exact hQ _ _ h
 | .cond X a b,s,_,_,hQ,h=>by
  simp only [W2] at h ⊢;obtain ⟨c,h1,h2⟩:=h;refine ⟨c,h1,?_⟩;cases c
  ·exact lg hQ h2
  ·exact lg hQ h2
 | .block id b,s,_,_,hQ,h=>by
  simp only [W2] at h ⊢;refine lg (fun e s h => ?_) h;cases e with
  | normal=>exact hQ _ _ h
  | exit id'=>
   simp only [Ja] at h ⊢;split
   ·rename_i hi;rw [if_pos hi] at h;exact hQ _ _ h
   ·rename_i hi;rw [if_neg hi] at h;exact hQ _ _ h
  | ret=>exact hQ _ _ h
 | .loop b,s,_,_,hQ,h=>by
  simp only [W2] at h ⊢;obtain ⟨n,h⟩:=h;exact ⟨n,VN (F:=W2 P b) (F':=W2 P b) (fun s Q Q' hQ h=>lg hQ h) hQ h⟩
 | .exit id,s,_,_,hQ,h=>hQ _ _ h
 | .ret,s,_,_,hQ,h=>hQ _ _ h
theorem Ej {P:aR}:∀{c:CC} {s:Nat->AV} {Q:Ex->(Nat->AV)->Prop},W2 P c.wc s Q->W P c s Q
 | .skip,s,_,h=>h
 | .rg rs,s,_,h=>VM h
 | .seq a b,s,_,h=>by
  simp only [W];refine Ej (c:=a) (lg (fun e s h => ?_) h);cases e with
  | normal=>exact Ej (c:=b) h
  | exit id=>exact h
  | ret=>exact h
 | .cond X a b,s,_,h=>by
  simp only [W];obtain ⟨c,h1,h2⟩:=h;refine ⟨c,h1,?_⟩;cases c
  ·exact Ej (c:=b) h2
  ·exact Ej (c:=a) h2
 | .block id b,s,_,h=>Ej (c:=b) h
 | .loop b,s,Q,h=>by
  simp only [W];obtain ⟨n,h⟩:=h;exact ⟨n,VN (F:=W2 P b.wc) (F':=W P b) (fun s Q Q' hQ h=>Ej (c:=b) (lg hQ h)) (fun _ _ h=>h) h⟩
 | .exit id,s,_,h=>h
 | .ret,s,_,h=>h
def WC.wrs:WC->aa Nat
 | .rg rs=>rs.flatMap (·.ds)
 | .seq a b=>a.wrs++b.wrs
 | .cond _ a b=>a.wrs++b.wrs
 | .block _ b=>b.wrs
 | .loop b=>b.wrs
 | _=>[]
def FrQ (wr:aa Nat) (s0:Nat->AV) (Q:Ex->(Nat->AV)->Prop) (e:Ex) (s:Nat->AV):Prop:=Q e s/\∀t,t∉wr->s t=s0 t
theorem asY {s:Nat->AV} {ds:aa Nat} {v:aa AV} {t:Nat} (h:t∉ds):aC s (ds.zip v) t=s t:=bR.upds_out (fun hm=>h (bR.zip_mem hm))
theorem H5 {P:aR} {rs:aa WO} {s0:Nat->AV} {wr:aa Nat}:∀{os:aa WO} {wl:aa Bool} {s:Nat->AV} {K:(Nat->AV)->Prop},(∀t,t∉wr->s t=s0 t)->(∀o,o∈os->∀t,t∈o.ds->t∈wr) ->
  p8 P rs os wl s K->p8 P rs os wl s (fun s=>K s/\∀t,t∉wr->s t=s0 t)
 | [],_,_,_,hs,_,h=>⟨h,hs⟩
 | o::os,wl,s,K,hs,ho,h=>by
  simp only [p8] at h ⊢;split
  ·rename_i hw;rw [if_pos hw] at h;obtain ⟨b,v,h1,h2,h3⟩:=h;refine ⟨b,v,h1,h2,H5 (fun t ht => ?_) (fun o nV=>ho o (by simp [nV])) h3⟩;rw [asY (fun hm=>ht (ho o (by simp) t hm))];exact hs t ht
  ·rename_i hw;rw [if_neg hw] at h;exact H5 hs (fun o nV=>ho o (by simp [nV])) h
theorem rX {P:aR} {s0:Nat->AV} {wr:aa Nat}:∀{c:WC} {s:Nat->AV} {Q:Ex->(Nat->AV)->Prop},(∀t,t∉wr->s t=s0 t)->(∀t,t∈c.wrs->t∈wr)->W2 P c s Q->W2 P c s (FrQ wr s0 Q)
 | .skip,s,_,hs,_,h=>⟨h,hs⟩
 | .rg rs,s,_,hs,hw,h=>H5 hs (fun o ho t ht=>hw t (CY.2 ⟨o,ho,ht⟩)) h
 | .seq a b,s,Q,hs,hw,h=>by
  simp only [W2] at h ⊢
  refine lg (fun e s h => ?_) (rX hs (fun t ht=>hw t (by simp only [WC.wrs,bP];exact .inl ht)) h)
  cases e with
  | normal=>exact rX h.2 (fun t ht=>hw t (by simp only [WC.wrs,bP];exact .inr ht)) h.1
  | exit id=>exact h
  | ret=>exact h
 | .cond X a b,s,Q,hs,hw,h=>by
  simp only [W2] at h ⊢
  obtain ⟨c,h1,h2⟩:=h
  refine ⟨c,h1,?_⟩
  cases c
  ·exact rX hs (fun t ht=>hw t (by simp only [WC.wrs,bP];exact .inr ht)) h2
  ·exact rX hs (fun t ht=>hw t (by simp only [WC.wrs,bP];exact .inl ht)) h2
 | .block id b,s,Q,hs,hw,h=>by
  simp only [W2] at h ⊢
  refine lg (fun e s h => ?_) (rX hs hw h)
  cases e with
  | normal=>exact h
  | exit id'=>
   obtain ⟨h,hf⟩:=h
   simp only [Ja] at h ⊢
   split
   ·rename_i hi;rw [if_pos hi] at h;exact ⟨h,hf⟩
   ·rename_i hi;rw [if_neg hi] at h;exact ⟨h,hf⟩
  | ret=>exact h
 | .loop b,s,Q,hs,hw,h=>by
  simp only [W2] at h ⊢
  obtain ⟨n,h⟩:=h
  refine ⟨n,?_⟩
  have key:∀n s,(∀t,t∉wr->s t=s0 t)->rnd (W2 P b) Q n s->rnd (W2 P b) (FrQ wr s0 Q) n s:=by
   intro n;induction n with
   | zero=>intro s _ h;exact h
   | succ n ih=>
    intro s hs h;simp only [rnd] at h ⊢;refine lg (fun e s h => ?_) (rX hs hw h);cases e with
    | normal=>exact ih _ h.2 h.1
    | exit id=>exact h
    | ret=>exact h
  exact key n s hs h
 | .exit id,s,_,hs,_,h=>⟨h,hs⟩
 | .ret,s,_,hs,_,h=>⟨h,hs⟩
end Go.Fw
namespace Go.Fw
def acg (p:PK):Type:=match p.al with
 | false=>bg p.cs
 | true=>bg p.cs × aa Nat
def KA:aa PK->Type
 | []=>Unit
 | [p]=>acg p
 | p::p'::ps=>acg p × KA (p'::ps)
def ahV {p:PK}:{ps:aa PK}->acg p->KA ps->KA (p::ps)
 | [],x,_=>x
 | _::_,x,r=>(x,r)
def agD {B:Type} (p:PK) (y:bg p.cs) (is:aa Nat) (k:acg p->ah B):ah B:=
 match p,y,is,k with
 | ⟨_,_,false⟩,y,[],k=>k y
 | ⟨_,_,false⟩,_,_::_,_=>none
 | ⟨_,_,true⟩,y,is,k=>k (y,is)
def Aw {B:Type}:(pk:aa PK)->TS->(KA pk->ah B)->ah B
 | [],_,k=>k ()
 | p::ps,s,k=>match s p.t with
  | .v cs x is=>tH cs p.cs x fun y=>agD p y is fun v=>Aw ps s fun r=>k (ahV v r)
  | _=>none
def bvP:(p:PK)->acg p->BV
 | ⟨_,cs,false⟩,x=>.v cs x []
 | ⟨_,cs,true⟩,x=>.v cs x.1 x.2
def Tt:(pk:aa PK)->KA pk->TS->TS
 | [],_,s=>s
 | [p],x,s=>ups s p.t (bvP p x)
 | p::p'::ps,x,s=>ups (Tt (p'::ps) x.2 s) p.t (bvP p x.1)
def inM (dd t:Nat):Bool:=dd.testBit t || Nat.ble 1000000 t
def Tu (dd:Nat) (s:TS):TS:=fun t=>bif inM dd t then .n else s t
theorem awq {p:PK} {ps:aa PK} (v:acg p) (r:KA ps) (s:TS):Tt (p::ps) (ahV v r) s=ups (Tt ps r s) p.t (bvP p v):=by
 cases ps<;>rfl
theorem Sub.ups1 {s:TS} {sA:Nat->AV} (h:Sub s sA) {d:Nat} {v:BV} (hd:sA d=v.av):Sub (Fw.ups s d v) sA:=by
 intro t;rw [amF];unfold upd;by_cases ht:t=d
 ·rw [if_pos ht,ht];exact .inr hd
 ·rw [if_neg ht];exact h t
theorem zN {B:Type} {a:B} {s:TS} {sA:Nat->AV} (hs:Sub s sA):∀{pk:aa PK} {k:KA pk->ah B},Aw pk s k=some a->∃x,k x=some a/\∀base,Sub base sA->Sub (Tt pk x base) sA
 | [],k,h=>⟨(),h,fun _ hb=>hb⟩
 | p::ps,k,h=>by
  simp only [Aw] at h
  split at h
  ·rename_i cs x is hp
   have hA:=(hs p.t).resolve_left (by rw [hp];simp)
   rw [hp] at hA
   obtain ⟨y,h1,h2⟩:=rW h
   have h3:∃v,(Aw ps s fun r=>k (ahV v r))=some a/\(BV.v cs x is).av=(bvP p v).av:=by
    obtain ⟨t,pcs,al⟩:=p;cases al with
    | true=>
     simp only [agD] at h1;exact ⟨_,h1,by simp only [BV.av,bvP];rw [h2]⟩
    | false=>
     cases is with
     | nil=>
      simp only [agD] at h1;exact ⟨_,h1,by simp only [BV.av,bvP];rw [h2]⟩
     | cons=>simp [agD] at h1
   obtain ⟨v,h4,h5⟩:=h3
   obtain ⟨r,h6,h7⟩:=zN hs h4
   refine ⟨_,h6,fun base hb => ?_⟩
   rw [awq]
   exact (h7 base hb).ups1 (by rw [hA,h5])
  ·cases h
def it {X B:Type} (F:(X->ah B)->X->ah B):Nat->X->ah B
 | 0,_=>none
 | n+1,x=>F (it F n) x
def BIG:Nat:=18446744073709551616
def aU {X B:Type} (n:Nat) (F:(X->ah B)->X->ah B) (x:X):ah B:=it F n x
def takeC {B:Type}:aa Nat->TS->(TS->ah B)->ah B
 | [],s,k=>k s
 | t::ts,s,k=>match s t with
  | .v cs x _=>takeC ts (ups s t (.v cs x [])) k
  | _=>none
def apj {B:Type} (nu:Nat) (k:aa BV->ah B) (vs:aa BV):ah B:=bif Nat.ble vs.length nu&&Nat.ble 1 vs.length then k vs else none
def SE {B:Type} (s:TS):(ps:aa (aa TY))->aa OY->(lZ ps->ah B)->ah B
 | [],[],k=>k ()
 | p::ps,X::Xs,k=>X.c' s fun cs x=>tH cs p x fun y=>SE s ps Xs fun r=>k (Bj y r)
 | _,_,_=>none
def agE (rs:RS) (cs:aa TY) (r:bg cs):BV:=
 match rs with
 | .u=>.n
 | _=>.v cs r []
def KT.c {B:Type} (s:TS) (sp:TSp) (r:bg sp.rs) (o:bg sp.os) (k:aa BV->ah B):KT->ah B
 | .no=>k [agE sp.sg.res sp.rs r]
 | .mt rt sk off t j=>bif Nat.beq j sp.j then vg s t fun _ _ is=>vg s rt fun cs x _=>VK (fun e row k'=>HZ e row off sp.os o k') cs x sk is fun z=>k [agE sp.sg.res sp.rs r,.v cs z []] else none
 | .mp j=>bif Nat.beq j sp.j then k [agE sp.sg.res sp.rs r,.v sp.os o []] else none
def TO.c {B:Type} (E:aN) (s:TS) (k:aa BV->ah B) (o:TO):ah B:=
 match o.e with
 | .det nu e=>takeC o.tks s fun s1=>e.c s1 (apj nu k)
 | .call nu K gets kt=>takeC o.tks s fun s1=>match E K with
  | some sp=>SE s1 sp.ps gets fun xs=>Option.bind (sp.f xs) fun ro=>kt.c s1 sp ro.1 ro.2 (apj nu k)
  | none=>none
 | .pick c X Y=>match s c with
  | .v [.b] x is=>cond x (X.c' (ups s c (.v [.b] true is)) fun y=>k [.v [y.t] y.x []]) (Y.c' (ups s c (.v [.b] false is)) fun y=>k [.v [y.t] y.x []])
  | _=>none
def gdT (all:aa TO) (j:Nat):ah Nat:=
 match all[j]? with
 | some o=>o.d
 | none=>none
def OT {B:Type} (E:aN) (all:aa TO):aa TO->aa Bool->TS->(TS->ah B)->ah B
 | [],_,s,k=>k s
 | o::os,wl,s,k=>match o.gd with
  | none=>o.c E s fun vs=>OT E all os (wl++[true]) (upz s o.ds vs) k
  | some (j,b)=>bif wl.getD j false then
    match gdT all j with
    | some t=>match s t with
     | .v [.b] x is=>cond x
      (bif b then o.c E (ups s t (.v [.b] true is)) fun vs=>OT E all os (wl++[true]) (upz (ups s t (.v [.b] true is)) o.ds vs) k else OT E all os (wl++[false]) (ups s t (.v [.b] true is)) k)
      (bif b then OT E all os (wl++[false]) (ups s t (.v [.b] false is)) k else o.c E (ups s t (.v [.b] false is)) fun vs=>OT E all os (wl++[true]) (upz (ups s t (.v [.b] false is)) o.ds vs) k)
     | _=>none
    | none=>none
   else OT E all os (wl++[false]) s k
def TC.run {B:Type} (n:Nat) (E:aN):TC->TS->(Ex->TS->ah B)->ah B
 | .skip,s,k=>k .normal s
 | .rg ops,s,k=>OT E ops ops [] s (k .normal)
 | .seq a b,s,k=>a.run n E s fun e s'=>match e with
  | .normal=>b.run n E s' k
  | .exit id=>k (.exit id) s'
  | .ret=>k .ret s'
 | .cond X a b,s,k=>match X with
  | .t t=>match s t with
   | .v [.b] x is=>_root_.cond x (a.run n E (ups s t (.v [.b] true is)) k) (b.run n E (ups s t (.v [.b] false is)) k)
   | _=>none
  | .c v=>match v with
   | .bool x=>_root_.cond x (a.run n E s k) (b.run n E s k)
   | _=>none
 | .block id b,s,k=>b.run n E s fun e s'=>match e with
  | .normal=>k .normal s'
  | .exit id'=>bif Nat.beq id' id then k .normal s' else k (.exit id') s'
  | .ret=>k .ret s'
 | .loop pk dd b,s,k=>Aw pk s fun x=>aU n (fun self x=>b.run n E (Tt pk x (Tu dd s)) fun e s'=>match e with
  | .normal=>Aw pk s' self
  | .exit id=>k (.exit id) s'
  | .ret=>k .ret s') x
 | .exit id,s,k=>k (.exit id) s
 | .ret,s,k=>k .ret s
 | .join pk dd none a,s,k=>Option.bind (a.run n E s fun e s'=>match e with
  | .normal=>Aw pk s' some
  | _=>none) fun x=>k .normal (Tt pk x (Tu dd s))
 | .join pk dd (some pr) a,s,k=>Option.bind (a.run n E s fun e s'=>match e with
  | .normal=>Aw pk s' fun x=>some (Sum.inl x)
  | .ret=>Aw pr s' fun x=>some (Sum.inr x)
  | _=>none) fun y=>match y with
  | .inl x=>k .normal (Tt pk x (Tu dd s))
  | .inr x=>k .ret (Tt pr x (Tu dd s))
def ach:aa Nat->Eff->Eff
 | [],E=>E
 | t::ts,E=>(ach ts E).pre (F4 t)
def TO.weff (E:aN) (o:TO) (b:Bool):Eff:=
 match o.e with
 | .det nu e=>ach o.tks ((Eff.det e.f).cap nu)
 | .call nu K gets kt=>match E K with
  | some sp=>ach o.tks ((Eff.call K sp.sg (fun s=>oI s (gets.map OY.f)) fun res outs s=>kt.sk.post sp.sg.res res outs s).cap nu)
  | none=>.det fun _=>none
 | .pick c X Y=>(Ku 0 c X Y b).eff
def TO.wcb (o:TO):(Nat->AV)->ah Bool:=
 match o.e with
 | .pick c _ _=>fun s=>kT s c
 | _=>fun _=>some true
def TO.wo (E:aN) (o:TO):WO:=⟨o.weff E,o.wcb,o.ds,o.d,o.gd⟩
def TC.wc (E:aN):TC->WC
 | .skip=>.skip
 | .rg ops=>.rg (ops.map (TO.wo E))
 | .seq a b=>.seq (a.wc E) (b.wc E)
 | .cond X a b=>.cond X (a.wc E) (b.wc E)
 | .block id b=>.block id (b.wc E)
 | .loop _ _ b=>.loop (b.wc E)
 | .exit id=>.exit id
 | .ret=>.ret
 | .join _ _ _ a=>a.wc E
def TC.wrs:TC->aa Nat
 | .rg ops=>ops.flatMap (·.ds)
 | .seq a b=>a.wrs++b.wrs
 | .cond _ a b=>a.wrs++b.wrs
 | .block _ b=>b.wrs
 | .loop _ _ b=>b.wrs
 | .join _ _ _ a=>a.wrs
 | _=>[]
def TC.okd:TC->Bool
 | .seq a b=>a.okd&&b.okd
 | .cond _ a b=>a.okd&&b.okd
 | .block _ b=>b.okd
 | .loop _ dd b=>b.okd&&b.wrs.all fun t=>inM dd t
 | .join _ dd _ a=>a.okd&&a.wrs.all fun t=>inM dd t
 | _=>true
theorem xw (E:aN):∀c:TC,(c.wc E).wrs=c.wrs
 | .skip=>rfl
 | .rg ops=>by simp only [TC.wc,WC.wrs,TC.wrs,List.flatMap_map];rfl
 | .seq a b=>by simp only [TC.wc,WC.wrs,TC.wrs,xw E a,xw E b]
 | .cond X a b=>by simp only [TC.wc,WC.wrs,TC.wrs,xw E a,xw E b]
 | .block id b=>xw E b
 | .loop _ _ b=>xw E b
 | .exit id=>rfl
 | .ret=>rfl
 | .join _ _ _ a=>xw E a
end Go.Fw
namespace Go.Fw
section
variable {B:Type} {s:TS} {sA:Nat->AV} {a:B} {P:aR} {E:aN}
theorem amL {nu:Nat} {k:aa BV->ah B} {vs:aa BV} (h:apj nu k vs=some a):vs.length<=nu/\0<vs.length/\k vs=some a:=by
 unfold apj at h;cases hb:(Nat.ble vs.length nu&&Nat.ble 1 vs.length) with
 | true=>
  rw [hb] at h;simp only [aM] at hb;exact ⟨Nat.le_of_ble_eq_true hb.1,Nat.le_of_ble_eq_true hb.2,h⟩
 | false=>rw [hb] at h;cases h
theorem ahW (hs:Sub s sA):∀{ps:aa (aa TY)} {Xs:aa OY} {k:lZ ps->ah B},SE s ps Xs k=some a->∃xs,oI sA (Xs.map OY.f)=some (qY ps xs)/\k xs=some a
 | [],[],k,h=>⟨(),rfl,h⟩
 | [],_::_,_,h=>by simp [SE] at h
 | _::_,[],_,h=>by simp [SE] at h
 | p::ps,X::Xs,k,h=>by
  simp only [SE] at h;obtain ⟨cs,x,h1,h2⟩:=Kw hs h;obtain ⟨y,h3,h4⟩:=rW h2;obtain ⟨xs,h5,h6⟩:=ahW hs h3;refine ⟨Bj y xs,?_,h6⟩;simp only [bf,oI,h1,h5];rw [Ky,h4]
theorem aBB (cs:aa TY) (x:bg cs) (is:aa Nat):(BV.v cs x is).av = .v (bC cs x) is:=rfl
theorem VO (rs:RS) (cs:aa TY) (r:bg cs):(agE rs cs r).av=jB (bC cs r) rs:=by
 cases rs<;>rfl
theorem amM (sp:TSp) (o:bg sp.os) {j:Nat} (h:Nat.beq j sp.j=true):(sp.outs o)[j]?=some (bC sp.os o):=by
 have:=Xc h;subst this;simp [TSp.outs]
theorem aBC (hs:Sub s sA) {sp:TSp} {r:bg sp.rs} {o:bg sp.os} {kt:KT} {k:aa BV->ah B} (h:kt.c s sp r o k=some a) :
  ∃vs,kt.sk.post sp.sg.res (bC sp.rs r) (sp.outs o) sA=some (vs.map BV.av)/\k vs=some a:=by
 cases kt with
 | no=>
  refine ⟨_,?_,h⟩;simp only [KT.sk,SK.post,bf,bQ,VO]
 | mt rt sk off t j=>
  simp only [KT.c] at h;rcases iD h with ⟨h1,h2⟩|⟨_,h2⟩
  ·obtain ⟨cs0,x0,is,h3,h4⟩:=nY hs h2;obtain ⟨cs,x,is',h5,h6⟩:=nY hs h4;obtain ⟨row,z,h7,h8,h9⟩:=ace (g:=fun row=>splice row off (bC sp.os o)) (fun e y' k' hk=>by
    obtain ⟨z,g1,g2⟩:=Jc hk
    exact ⟨z,g1,g2⟩) h6
   refine ⟨_,?_,h8⟩;simp only [KT.sk,SK.post,aoX,h3,tJ h5,amM sp o h1,h7,bf,bQ,VO,aBB,h9]
  ·cases h2
 | mp j=>
  simp only [KT.c] at h;rcases iD h with ⟨h1,h2⟩|⟨_,h2⟩
  ·refine ⟨_,?_,h2⟩;simp only [KT.sk,SK.post,amM sp o h1,bf,bQ,VO,aBB]
  ·cases h2
theorem ady {ts:aa Nat} {k:TS->ah B}:∀{s:TS} {sA:Nat->AV},Sub s sA->takeC ts s k=some a->∃s1 sA1,Sub s1 sA1/\k s1=some a/\∀E0 v,Eff.rel P E0 sA1 v->(ach ts E0).rel P sA v:=by
 induction ts with
 | nil=>intro s sA hs h;exact ⟨s,sA,hs,h,fun _ _ h=>h⟩
 | cons t ts ih=>
  intro s sA hs h;simp only [takeC] at h;split at h
  ·rename_i cs x is ht;have hA:=(hs t).resolve_left (by rw [ht];simp);rw [ht] at hA;have lH:=hs.ups t (.v cs x []);obtain ⟨s1,sA1,h1,h2,h3⟩:=ih lH h;refine ⟨s1,sA1,h1,h2,fun E0 v hr => ?_⟩;have h4:=h3 E0 v hr;have JZ:F4 t sA=some (upd sA t (BV.v cs x []).av):=by
    simp only [F4,iM,hA,BV.av]
   simp only [ach];generalize ach ts E0=E1 at h4;cases E1 with
   | det f=>simp only [Eff.pre,Eff.rel,JZ] at h4 ⊢;exact h4
   | call K sg args post=>
    simp only [Eff.pre,Eff.rel,JZ] at h4 ⊢;exact h4
  ·cases h
theorem adz {t:Nat} {x:Bool} {is:aa Nat} (h:sA t=(BV.v [.b] x is).av):kT sA t=some x:=by
 simp only [kT,h,BV.av,bC,enc]
theorem aBD (hE:∀K sp,E K=some sp->sp.Ok P K) (hs:Sub s sA) {o:TO} {k:aa BV->ah B} (h:o.c E s k=some a) :
  ∃b vs,o.wcb sA=some b/\(o.weff E b).rel P sA (vs.map BV.av)/\k vs=some a:=by
 unfold TO.c at h;split at h
 ·rename_i nu e he;obtain ⟨s1,sA1,h1,h2,h3⟩:=ady (P:=P) hs h;obtain ⟨vs,h4,h5⟩:=aBy h1 h2;obtain ⟨h6,h7,h8⟩:=amL h5;refine ⟨true,vs,by unfold TO.wcb;rw [he],?_,h8⟩;unfold TO.weff;rw [he];refine h3 _ _ ?_;simp only [Eff.cap,Eff.rel,h4,fE];rw [if_pos ⟨h6,h7⟩]
 ·rename_i nu K gets kt he;obtain ⟨s1,sA1,h1,h2,h3⟩:=ady (P:=P) hs h;split at h2
  ·rename_i sp sP;obtain ⟨xs,h4,h5⟩:=ahW h1 h2;simp only [CR] at h5;obtain ⟨ro,h6,h7⟩:=h5;obtain ⟨vs,h8,h9⟩:=aBC h1 h7;obtain ⟨g6,g7,g8⟩:=amL h9;refine ⟨true,vs,by unfold TO.wcb;rw [he],?_,g8⟩;unfold TO.weff;rw [he];simp only [sP];refine h3 _ _ ?_;simp only [Eff.cap,Eff.rel];refine ⟨_,_,_,h4,hE K sp sP xs ro.1 ro.2 h6,?_⟩;simp only [h8,fE];rw [if_pos ⟨g6,g7⟩]
  ·cases h2
 ·rename_i c X Y he;split at h
  ·rename_i x is hc;have hA:=(hs c).resolve_left (by rw [hc];simp);rw [hc] at hA;have hb:=adz hA;cases x with
   | true=>
    have lH:Sub (ups s c (.v [.b] true is)) sA:=hs.ups1 hA;simp only [au] at h;obtain ⟨y,v,h1,h2,h3⟩:=OQ lH h;refine ⟨true,_,by unfold TO.wcb;rw [he];exact hb,?_,h3⟩;unfold TO.weff;rw [he];simp only [Ku,Stp.set,Eff.rel,hb,if_true,h1,bf,bQ,BV.av];rw [show bC [y.t] y.x=[enc y.t y.x] from by simp only [bC],h2.1]
   | false=>
    have lH:Sub (ups s c (.v [.b] false is)) sA:=hs.ups1 hA;simp only [az] at h;obtain ⟨y,v,h1,h2,h3⟩:=OQ lH h;refine ⟨false,_,by unfold TO.wcb;rw [he];exact hb,?_,h3⟩;unfold TO.weff;rw [he];simp only [Ku,Stp.set,Eff.rel,hb,if_true,eQ,if_false,h1,bf,bQ,BV.av];rw [show bC [y.t] y.x=[enc y.t y.x] from by simp only [bC],h2.1]
  ·cases h
theorem ahX (hE:∀K sp,E K=some sp->sp.Ok P K) {all:aa TO} {k:TS->ah B} {Q:(Nat->AV)->Prop} (hk:∀s sA,Sub s sA->k s=some a->Q sA):∀{os:aa TO} {wl:aa Bool} {s:TS} {sA:Nat->AV},Sub s sA ->
  OT E all os wl s k=some a->p8 P (all.map (TO.wo E)) (os.map (TO.wo E)) wl sA Q
 | [],wl,s,sA,hs,h=>hk _ _ hs h
 | o::os,wl,s,sA,hs,h=>by
  have exec:∀s,Sub s sA->(o.c E s fun vs=>OT E all os (wl++[true]) (upz s o.ds vs) k)=some a->∃b v,(o.wo E).cb sA=some b/\((o.wo E).eff b).rel P sA v/\p8 P (all.map (TO.wo E)) (os.map (TO.wo E)) (wl++[true]) (aC sA ((o.wo E).ds.zip v)) Q:=by
   intro s hs h;obtain ⟨b,vs,h1,h2,h3⟩:=aBD hE hs h;exact ⟨b,_,h1,h2,ahX hE hk (hs.upz o.ds vs) h3⟩
  have skip:∀s,Sub s sA->OT E all os (wl++[false]) s k=some a->p8 P (all.map (TO.wo E)) (os.map (TO.wo E)) (wl++[false]) sA Q:=fun s hs h=>ahX hE hk hs h
  simp only [bf,p8]
  simp only [OT] at h
  cases hg:o.gd with
  | none=>
   rw [hg] at h
   have hw:Di (all.map (TO.wo E)) wl sA (o.wo E)=true:=by unfold Di;show (match o.gd with|none=>true|some (j,b)=>_)=_;rw [hg]
   rw [if_pos hw]
   exact exec s hs h
  | some p=>
   obtain ⟨j,b⟩:=p
   rw [hg] at h
   simp only at h
   have hw0:Di (all.map (TO.wo E)) wl sA (o.wo E)=(wl.getD j false&&(match gdT all j with
   | some t=>(match kT sA t with
    | some c=>c == b
    | none=>false)
   | none=>false)):=by
    unfold Di
    show (match o.gd with|none=>true|some (j,b)=>_)=_
    rw [hg]
    simp only [kz,gdT]
    cases all[j]? with
    | none=>rfl
    | some oj=>rfl
   rcases iD h with ⟨h1,h2⟩|⟨h1,h2⟩
   ·split at h2
    ·rename_i t ht
     split at h2
     ·rename_i x is hx
      have hA:=(hs t).resolve_left (by rw [hx];simp)
      rw [hx] at hA
      have hb:=adz hA
      have hw1:Di (all.map (TO.wo E)) wl sA (o.wo E)=((show Bool from x) == b):=by
       rw [hw0,h1,ht]
       show (true&&(match kT sA t with|some c=>c == b|none=>false))=_
       rw [hb];rfl
      rw [hw1]
      cases x with
      | true=>
       have lH:Sub (ups s t (.v [.b] true is)) sA:=hs.ups1 hA
       cases b with
       | true=>exact (if_pos rfl).symm▸exec _ lH h2
       | false=>exact skip _ lH h2
      | false=>
       have lH:Sub (ups s t (.v [.b] false is)) sA:=hs.ups1 hA
       cases b with
       | true=>exact skip _ lH h2
       | false=>exact (if_pos rfl).symm▸exec _ lH h2
     ·cases h2
    ·cases h2
   ·have hw1:Di (all.map (TO.wo E)) wl sA (o.wo E)=false:=by rw [hw0,h1];rfl
    rw [hw1]
    exact skip _ hs h2
end
theorem xy {P:aR} {N0:Nat} {E:aN} (hE:∀K sp,E K=some sp->sp.Ok P K):∀{c:TC} {B:Type} {a:B} {s:TS} {sA:Nat->AV} {k:Ex->TS->ah B} {Q:Ex->(Nat->AV)->Prop},c.okd=true->Sub s sA->c.run N0 E s k=some a ->
  (∀e s sA,Sub s sA->k e s=some a->Q e sA)->W2 P (c.wc E) sA Q
 | .skip,B,a,s,sA,k,Q,_,hs,h,hk=>hk _ _ _ hs h
 | .rg ops,B,a,s,sA,k,Q,_,hs,h,hk=>ahX hE (fun s sA hs h=>hk _ _ _ hs h) hs h
 | .seq x y,B,a,s,sA,k,Q,hd,hs,h,hk=>by
  simp only [TC.okd,aM] at hd
  simp only [TC.run] at h
  simp only [TC.wc,W2]
  refine xy hE hd.1 hs h fun e s' sA' iy h' => ?_
  cases e with
  | normal=>exact xy hE hd.2 iy h' hk
  | exit id=>exact hk _ _ _ iy h'
  | ret=>exact hk _ _ _ iy h'
 | .cond X x y,B,a,s,sA,k,Q,hd,hs,h,hk=>by
  simp only [TC.okd,aM] at hd
  simp only [TC.wc,W2]
  cases X with
  | t t=>
   simp only [TC.run] at h
   split at h
   ·rename_i b is ht
    have hA:=(hs t).resolve_left (by rw [ht];simp)
    rw [ht] at hA
    refine ⟨b,by simp only [DX.get,hA,BV.av,bC,enc],?_⟩
    cases b with
    | true=>exact xy hE hd.1 (hs.ups1 hA) h hk
    | false=>exact xy hE hd.2 (hs.ups1 hA) h hk
   ·cases h
  | c v=>
   simp only [TC.run] at h
   split at h
   ·rename_i b
    refine ⟨b,rfl,?_⟩
    cases b with
    | true=>exact xy hE hd.1 hs h hk
    | false=>exact xy hE hd.2 hs h hk
   ·cases h
 | .block id x,B,a,s,sA,k,Q,hd,hs,h,hk=>by
  simp only [TC.okd] at hd
  simp only [TC.run] at h
  simp only [TC.wc,W2]
  refine xy hE hd hs h fun e s' sA' iy h' => ?_
  cases e with
  | normal=>exact hk _ _ _ iy h'
  | exit id'=>
   simp only at h'
   simp only [Ja]
   rcases iD h' with ⟨h1,h2⟩|⟨h1,h2⟩
   ·rw [if_pos (Xc h1)];exact hk _ _ _ iy h2
   ·rw [if_neg (fun he=>by subst he;simp at h1)];exact hk _ _ _ iy h2
  | ret=>exact hk _ _ _ iy h'
 | .loop pk dd x,B,a,s,sA,k,Q,hd,hs,h,hk=>by
  simp only [TC.okd,aM,bW] at hd
  simp only [TC.run] at h
  simp only [TC.wc,W2]
  obtain ⟨x0,h1,h2⟩:=zN hs h
  refine ⟨N0,?_⟩
  have base:∀sA':Nat->AV,(∀t,t∉x.wrs->sA' t=sA t)->Sub (Tu dd s) sA':=by
   intro sA' hf t;unfold Tu;cases ht:inM dd t with
   | true=>exact .inl rfl
   | false=>
    rcases hs t with h3|h3
    ·exact .inl h3
    ·right;rw [hf t (fun hm=>by rw [hd.2 t hm] at ht;cases ht),h3];rfl
  have key:∀n x0 sA',(∀t,t∉x.wrs->sA' t=sA t)->Sub (Tt pk x0 (Tu dd s)) sA'->it (fun self y=>x.run N0 E (Tt pk y (Tu dd s)) fun e s'=>match e with
    | .normal=>Aw pk s' self
    | .exit id=>k (.exit id) s'
    | .ret=>k .ret s') n x0=some a->rnd (W2 P (x.wc E)) Q n sA':=by
   intro n
   induction n with
   | zero=>intro x0 sA' _ _ h;simp [it] at h
   | succ n ih=>
    intro x0 sA' hf iy h
    simp only [it] at h
    simp only [rnd]
    have:=xy hE (Q:=fun e sB=>(∀t,t∉x.wrs->sB t=sA t)->agz (rnd (W2 P (x.wc E)) Q n) Q e sB) hd.1 iy h fun e s'' sB RJ h' qy => ?_
    ·refine lg (fun e sB hB => ?_) (rX (s0:=sA) (wr:=x.wrs) hf (fun t ht=>by rwa [xw] at ht) this)
     exact hB.1 hB.2
    ·cases e with
     | normal=>
      obtain ⟨y,h3,h4⟩:=zN RJ h'
      exact ih y sB qy (h4 _ (base sB qy)) h3
     | exit id=>exact hk _ _ _ RJ h'
     | ret=>exact hk _ _ _ RJ h'
  exact key N0 x0 sA (fun _ _=>rfl) (h2 _ (base sA fun _ _=>rfl)) h1
 | .exit id,B,a,s,sA,k,Q,_,hs,h,hk=>hk _ _ _ hs h
 | .ret,B,a,s,sA,k,Q,_,hs,h,hk=>hk _ _ _ hs h
 | .join pk dd pr x,B,a,s,sA,k,Q,hd,hs,h,hk=>by
  simp only [TC.okd,aM,bW] at hd
  simp only [TC.wc]
  have base:∀sA':Nat->AV,(∀t,t∉x.wrs->sA' t=sA t)->Sub (Tu dd s) sA':=by
   intro sA' hf t
   unfold Tu
   cases ht:inM dd t with
   | true=>exact .inl rfl
   | false=>
    rcases hs t with h3|h3
    ·exact .inl h3
    ·right
     rw [hf t (fun hm=>by rw [hd.2 t hm] at ht;cases ht),h3];rfl
  have fr:∀{Q':Ex->(Nat->AV)->Prop},W2 P (x.wc E) sA Q'->W2 P (x.wc E) sA (FrQ x.wrs sA Q'):=fun hw=>rX (fun _ _=>rfl) (fun t ht=>by rwa [xw] at ht) hw
  cases pr with
  | none=>
   simp only [TC.run,CR] at h
   obtain ⟨x0,h1,h2⟩:=h
   have:=xy hE (Q:=fun e sB=>(∀t,t∉x.wrs->sB t=sA t)->Q e sB) hd.1 hs h1 fun e s'' sB RJ h' qy => ?_
   ·exact lg (fun e sB hB=>hB.1 hB.2) (fr this)
   ·cases e with
    | normal=>
     obtain ⟨y,h3,h4⟩:=zN RJ h'
     cases h3
     exact hk _ _ _ (h4 _ (base sB qy)) h2
    | exit id=>cases h'
    | ret=>cases h'
  | some pr=>
   simp only [TC.run,CR] at h
   obtain ⟨x0,h1,h2⟩:=h
   have:=xy hE (Q:=fun e sB=>(∀t,t∉x.wrs->sB t=sA t)->Q e sB) hd.1 hs h1 fun e s'' sB RJ h' qy => ?_
   ·exact lg (fun e sB hB=>hB.1 hB.2) (fr this)
   ·cases e with
    | normal=>
     obtain ⟨y,h3,h4⟩:=zN RJ h'
     cases h3
     exact hk _ _ _ (h4 _ (base sB qy)) h2
    | exit id=>cases h'
    | ret=>
     obtain ⟨y,h3,h4⟩:=zN RJ h'
     cases h3
     exact hk _ _ _ (h4 _ (base sB qy)) h2
end Go.Fw
namespace Go.Fw
def inT:(ps:aa (aa TY))->lZ ps->Nat->TS
 | [],_,_=>fun _=>.n
 | [p],x,i=>ups (fun _=>.n) i (.v p x [])
 | p::p'::ps,x,i=>ups (inT (p'::ps) x.2 (i+1)) i (.v p x.1 [])
def ahY:(cs:aa TY)->bg cs->bg cs->bg cs
 | [],_,_=>()
 | c::cs,x,y=>qX (match c,gW x,gW y with
  | .sl _,_,r=>r
  | .b,v,_=>v
  | .i _,v,_=>v
  | .s,v,_=>v) (ahY cs (jO x) (jO y))
theorem VP:∀{cs:aa TY} {x y:bg cs},bC cs (ahY cs x y)=HY (bC cs x) (bC cs y)
 | [],_,_=>rfl
 | c::cs,x,y=>by
  simp only [ahY];rw [pY,eu x,eu y];cases c with
  | sl e=>
   rw [uG (gW x)];simp only [HY];rw [VP]
  | _=>
   simp only [enc,HY];rw [VP]
def VQ:{cs cs':aa TY}->bg cs->bg cs'->bg (cs++cs')
 | [],_,_,y=>y
 | _::_,_,x,y=>qX (gW x) (VQ (jO x) y)
theorem VR:∀{cs cs':aa TY} {x:bg cs} {y:bg cs'},bC (cs++cs') (VQ x y)=bC cs x++bC cs' y
 | [],_,_,_=>rfl
 | c::cs,cs',x,y=>by
  rw [eu x];refine (pY (gW x) (VQ (jO x) y)).trans ?_;rw [VR];rfl
def aci {B:Type} (s:TS):aa Nat->((cs:aa TY)->bg cs->ah B)->ah B
 | [],k=>k [] ()
 | [t],k=>vg s t fun cs x _=>k cs x
 | t::t'::ts,k=>vg s t fun cs x _=>aci s (t'::ts) fun cs' y=>k (cs++cs') (VQ x y)
theorem amN {B:Type} {a:B} {s:TS} {sA:Nat->AV} (hs:Sub s sA):∀{ts:aa Nat} {k:(cs:aa TY)->bg cs->ah B},aci s ts k=some a->∃cs x,oO sA ts=some (bC cs x)/\k cs x=some a
 | [],k,h=>⟨[],(),rfl,h⟩
 | [t],k,h=>by
  simp only [aci] at h;obtain ⟨cs,x,is,h1,h2⟩:=nY hs h;exact ⟨cs,x,by simp only [oO,tJ h1,kY],h2⟩
 | t::t'::ts,k,h=>by
  simp only [aci] at h;obtain ⟨cs,x,is,h1,h2⟩:=nY hs h;obtain ⟨cs',y,h3,h4⟩:=amN hs h2;refine ⟨cs++cs',VQ x y,?_,h4⟩;rw [VR];simp only [oO,tJ h1] at h3 ⊢;rw [h3]
def VS {B:Type}:(ps:aa (aa TY))->lZ ps->Nat->((cs:aa TY)->bg cs->ah B)->ah B
 | [],_,_,_=>none
 | [p],x,0,k=>k p x
 | [_],_,_+1,_=>none
 | p::_::_,x,0,k=>k p x.1
 | _::p'::ps,x,n+1,k=>VS (p'::ps) x.2 n k
theorem amO {B:Type} {a:B}:∀{ps:aa (aa TY)} {x:lZ ps} {n:Nat} {k:(cs:aa TY)->bg cs->ah B},VS ps x n k=some a->∃cs y,(qY ps x)[n]?=some (bC cs y)/\k cs y=some a
 | [],_,_,_,h=>by simp [VS] at h
 | [p],x,0,k,h=>⟨p,x,rfl,h⟩
 | [_],_,_+1,_,h=>by simp [VS] at h
 | p::_::_,x,0,k,h=>⟨p,x.1,rfl,h⟩
 | p::p'::ps,x,n+1,k,h=>by
  simp only [VS] at h;obtain ⟨cs,y,h1,h2⟩:=amO h;exact ⟨cs,y,by simpa [qY] using h1,h2⟩
def ouC {B:Type} (ps:aa (aa TY)) (xs:lZ ps) (s:TS) (os:aa TY) (k:bg os->ah B):Ou->ah B
 | .no=>tH [] os () k
 | .mp j=>vg s j fun cs x _=>tH cs os x k
 | .mt j u off=>vg s u fun cs x _=>ahO cs x off os.length fun cs' y=>tH cs' os y fun y=>VS ps xs j fun cs2 z=>tH cs2 os z fun z=>k (ahY os z y)
theorem aBE {B:Type} {a:B} {s:TS} {sA:Nat->AV} (hs:Sub s sA) {ps:aa (aa TY)} {xs:lZ ps} {os:aa TY} {k:bg os->ah B} {ou:Ou} (h:ouC ps xs s os k ou=some a):∃o,Av (qY ps xs) sA ou=some (bC os o)/\k o=some a:=by
 cases ou with
 | no=>
  simp only [ouC] at h;obtain ⟨y,h1,h2⟩:=rW h;exact ⟨y,by simp only [Av,h2];rfl,h1⟩
 | mp j=>
  simp only [ouC] at h;obtain ⟨cs,x,is,h1,h2⟩:=nY hs h;obtain ⟨y,h3,h4⟩:=rW h2;exact ⟨y,by simp only [Av,tJ h1,h4],h3⟩
 | mt j u off=>
  simp only [ouC] at h;obtain ⟨cs,x,is,h1,h2⟩:=nY hs h;obtain ⟨cs',y,h3,h4⟩:=acb (cs:=cs) (x:=x) (off:=off) (n:=os.length) (k:=fun cs' y=>tH cs' os y fun y=>VS ps xs j fun cs2 z=>tH cs2 os z fun z=>k (ahY os z y));rw [h3] at h2;obtain ⟨y',h5,h6⟩:=rW h2;obtain ⟨cs2,z,h7,h8⟩:=amO h5;obtain ⟨z',h9,h10⟩:=rW h8;refine ⟨_,?_,h9⟩;have hl:(bC cs2 z).length=os.length:=by rw [<-h10,VJ]
  simp only [Av,tJ h1,h7,hl];rw [VP,h6,h10,h4]
theorem amQ:∀(ps:aa (aa TY)) (xs:lZ ps) (i:Nat) (sA:Nat->AV),(∀k as,(qY ps xs)[k]?=some as->sA (i+k) = .v as [])->Sub (inT ps xs i) sA
 | [],_,_,_,_=>fun _=>.inl rfl
 | [p],x,i,sA,h=>by
  refine Sub.ups1 (fun _=>.inl rfl) ?_;exact h 0 _ rfl
 | p::p'::ps,x,i,sA,h=>by
  refine Sub.ups1 (amQ (p'::ps) x.2 (i+1) sA fun k as hk => ?_) ?_
  ·rw [show i+1+k=i+(k+1) from by omega];exact h (k+1) as (by simpa [qY] using hk)
  ·exact h 0 _ rfl
def aI (n:Nat) (E:aN) (c:TC) (ps:aa (aa TY)) (rs os:aa TY) (regs:aa Nat) (ou:Ou) (xs:lZ ps):ah (bg rs × bg os):=
 c.run n E (inT ps xs 0) fun e s=>match e with
  | .exit _=>none
  | _=>aci s regs fun cs x=>tH cs rs x fun r=>ouC ps xs s os (fun o=>some (r,o)) ou
def apk (P:aR) (E:aN) (K:FuncId) (sg:aO) (h:HT) (ou:Ou):ah (WC × aa Nat):=(apc P (fun K=>(E K).map (·.sg)) K sg h ou).map fun p=>(p.1.wc,p.2)
theorem aV {P:aR} {E:aN} (hE:∀K sp,E K=some sp->sp.Ok P K) {K:FuncId} {sg:aO} {h:HT} {ou:Ou} {c:TC} {ps:aa (aa TY)} {rs os:aa TY} {regs:aa Nat} {n:Nat} (hc:apk P E K sg h ou=some (c.wc E,regs)) (hd:c.okd=true) :
  TSp.Ok P K ⟨sg,ps,rs,os,ou.j,aI n E c ps rs os regs ou⟩:=by
 intro xs r o hf;simp only at hf r o ⊢;simp only [apk,cO,bU] at hc;obtain ⟨⟨cc,regs'⟩,Hq,hwc,lF⟩:=hc;simp only at hwc lF;subst lF;refine aD9 Hq (Ej (c:=cc) ?_);rw [hwc];refine xy hE hd (amQ ps xs 0 _ fun k as hk=>by simp only [cB,inS,hk]) hf fun e s sA hs hk => ?_
 have main:(aci s regs' fun cs x=>tH cs rs x fun r=>ouC ps xs s os (fun o=>some (r,o)) ou)=some (r,o)->oO sA regs'=some (bC rs r)/\Av (qY ps xs) sA ou=some (bC os o):=by
  intro h;obtain ⟨cs,x,h1,h2⟩:=amN hs h;obtain ⟨y,h3,h4⟩:=rW h2;obtain ⟨o',h5,h6⟩:=aBE hs h3;cases h6;exact ⟨by rw [h1,h4],h5⟩
 cases e with
 | normal=>exact ⟨.inl rfl,main hk⟩
 | exit id=>cases hk
 | ret=>exact ⟨.inr rfl,main hk⟩
def o1 (d:Nat) (e:ED):TO:=⟨false,[],[],.det 1 e,[d],some d,none⟩
def wkC (N dd:Nat):aa Nat:=bif Nat.ble (2 ^ N) dd then ((List.range (4*N)).filter fun x=>dd.testBit (N+x)).map (7000000000 + ·) else []
def TC.ht (N:Nat):TC->HT
 | .rg ops=>.rg (ops.map fun o=>⟨o.al,o.tks,o.hd⟩)
 | .seq a b=>.two (a.ht N) (b.ht N)
 | .cond _ a b=>.two (a.ht N) (b.ht N)
 | .block _ b=>.one (b.ht N)
 | .loop pk dd b=>.loop (((List.range N).filter fun t=>dd.testBit t && !pk.any fun p=>Nat.beq p.t t)++wkC N dd) (b.ht N)
 | .join _ _ _ a=>a.ht N
 | _=>.nil
def aG:aa (FuncId × TSp)->aN
 | [],_=>none
 | (K,sp)::l,K'=>bif Nat.beq K' K then some sp else aG l K'
def apl (P:aR) (E:aN):Prop:=∀K sp,E K=some sp->sp.Ok P K
theorem ax (P:aR):apl P (aG []):=by intro K sp h;cases h
theorem ae {P:aR} {K:FuncId} {sp:TSp} {l:aa (FuncId × TSp)} (h:sp.Ok P K) (hl:apl P (aG l)):apl P (aG ((K,sp)::l)):=by
 intro K' sp' h';simp only [aG] at h';cases hb:Nat.beq K' K with
 | true=>
  rw [hb] at h';have:=Xc hb;subst this;cases h';exact h
 | false=>rw [hb] at h';exact hl K' sp' h'
end Go.Fw
