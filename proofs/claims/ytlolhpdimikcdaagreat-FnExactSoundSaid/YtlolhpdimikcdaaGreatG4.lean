/- A way of showing what a function computes: the blocks of the heap are owned by the places that hold them; this is a part of it. No conditions. -/
import Derived.Test.YtlolhpdimikcdaaGreatG3
set_option linter.unusedVariables false
set_option linter.unusedSimpArgs false
set_option linter.unusedSectionVars false
namespace Go.Fw
def mtOk (i:Nat):Nat->List CT->List CT->Bool
 | _,[],[]=>true
 | k,_::cu,.d::cs=>mtOk i (k+1) cu cs
 | k,.sl (.own (some (j,kk))) e::cu,.sl (.own p) e'::cs=>(j == i)&&(kk == k)&&okC [.sl (.own (some (j,kk))) e] [.sl (.own p) e']&&mtOk i (k+1) cu cs
 | _,_,_=>false
def mixA:List A->List A->List A
 | .v x::as,_::rs=>.v x::mixA as rs
 | .s _::as,r::rs=>r::mixA as rs
 | _,_=>[]
inductive Ou where
 | no
 | mp (j:Nat)
 | mt (j u off:Nat)
def Ou.j:Ou->Nat
 | .no=>0
 | .mp j=>j
 | .mt j _ _=>j
def PM.outs:Option PM->Bool
 | some (.mt _ _)=>true
 | some (.mp _)=>true
 | _=>false
def prot (sg:Sig) (i:Nat):Bool:=PM.outs sg.ps[i]?
def noOut (sg:Sig) (j:Nat):Bool:=(List.range sg.ps.length).all fun i=>(i == j) || !PM.outs sg.ps[i]?
def ouEs (sg:Sig):Ou->List Ent × List (Nat × Nat)
 | .no=>([],[])
 | .mp j=>match sg.ps[j]? with
  | some (.mp cs)=>([⟨j,0,cs.length,j,0⟩],[(j,j)])
  | _=>([],[])
 | .mt j u off=>match sg.ps[j]? with
  | some (.mt _ cs)=>([⟨u,off,cs.length,j,0⟩],[])
  | _=>([],[])
def okE (es:List Ent) (zs:List (Nat × Nat)) (c c':List CT):Bool:=CT.beqs (CT.unpins (CT.mapSs (fun _=>[]) c)) (CT.unpins c')&&CT.lives c'&&(CT.roSs c).all fun r=>decide (r<FB)&&es.all (fun e=>e.r != r)&&zs.all (fun z=>z.1 != r)
def ouOk (sg:Sig) (D:List TT) (es:List Ent) (zs:List (Nat × Nat)):Ou->Bool
 | .no=>(List.range sg.ps.length).all fun i=>!PM.outs sg.ps[i]?
 | .mp j=>noOut sg j&&(match sg.ps[j]?,gt D j with
  | some (.mp cs),.box cr=>okE es zs cr cs&&entOk es j 0 cs.length j 0&&(match zs.find? (fun p=>p.1 == j) with
   | some p=>p.2 == j
   | none=>false)
  | _,_=>false)
 | .mt j u off=>noOut sg j&&(match sg.ps[j]?,(gt D u).cts with
  | some (.mt _ cs),some cu=>decide (off+cs.length<=cu.length)&&mtOk j 0 ((cu.drop off).take cs.length) cs&&entOk es u off cs.length j 0
  | _,_=>false)
def getOu (args:List (List A)) (s:Nat->AV):Ou->Option (List A)
 | .no=>some []
 | .mp j=>getA j s
 | .mt j u off=>match getA u s,args[j]? with
  | some ra,some as=>some (mixA as ((ra.drop off).take as.length))
  | _,_=>none
section
variable {P:Program} {ac:Nat->Nat->Value} {κ0 κ:Col} {w0 w:World} {N:Nat} {tg:Nat->TT} {sv s:Nat->AV} {a:Act} {D:List TT} {sg:Sig} {es:List Ent} {zs:List (Nat × Nat)}
theorem mt_row (h:R ac κ0 w0 κ w N tg sv (gm a)) (hN:sg.ps.length<=N) {j u:Nat} (hu:u≠FB) {vs:List Value} (hac:∀k,ac j k=vs.getD k undef) {get:Nat->Value}:∀{cu cs:List CT} {k off:Nat} {asj row:List A},mtOk j k cu cs=true ->
  (∀i,i<cs.length->match es.find? (fun e=>e.hit u (off+i)) with|some e=>e.d=j/\e.b+(off+i-e.lo)=k+i|none=>False) ->
  (∀i jj c e,cu[i]?=some (.sl (.own (some (jj,c))) e)->get (off+i)=ac jj c) ->
  RCL κ w cu (u,[]) off get row->RCL κ0 w0 cs (j,[]) k (fun i=>vs.getD i undef) asj->RCL (exC κ0 κ (exF es zs)) w cs (j,[]) k (fun i=>vs.getD i undef) (mixA asj row)
 | [],[],k,off,asj,row,_,_,_,h1,h2=>by
  cases asj with
  | nil=>simp [mixA,RCL]
  | cons=>simp [RCL] at h2
 | [],_::_,_,_,_,_,hm,_,_,_,_=>by simp [mtOk] at hm
 | c::cu,[],_,_,_,_,hm,_,_,_,_=>by simp [mtOk] at hm
 | c::cu,.d::cs,k,off,asj,row,hm,hf,hp,h1,h2=>by
  cases asj with
  | nil=>simp [RCL] at h2
  | cons x asj=>
   cases row with
   | nil=>simp [RCL] at h1
   | cons r row=>
    simp only [RCL] at h1 h2
    have hm':mtOk j (k+1) cu cs=true:=by
     cases c with
     | d=>simpa only [mtOk] using hm
     | sl m e=>cases m with
      | own p=>cases p with
       | none=>simpa only [mtOk] using hm
       | some p=>simpa only [mtOk] using hm
      | ro S=>simpa only [mtOk] using hm
      | dead=>simpa only [mtOk] using hm
    have ih:=mt_row h hN hu hac (off:=off+1) hm' (fun i hi=>by
     have:=hf (i+1) (by simpa using hi)
     rw [show off+1+i=off+(i+1) from by omega,show k+1+i=k+(i+1) from by omega];exact this) (fun i jj c e hc=>by
     have:=hp (i+1) jj c e (by simpa using hc)
     rw [show off+1+i=off+(i+1) from by omega];exact this) h1.2 h2.2
    cases x with
    | s xs=>simp [RC] at h2
    | v y=>
     simp only [mixA,RCL]
     exact ⟨by simpa only [RC] using h2.1,ih⟩
 | c::cu,.sl m e'::cs,k,off,asj,row,hm,hf,hp,h1,h2=>by
  cases asj with
  | nil=>simp [RCL] at h2
  | cons x asj=>
   cases row with
   | nil=>simp [RCL] at h1
   | cons r row=>
    unfold mtOk at hm
    split at hm
    ·rename_i h3 h4;cases h3
    ·rename_i h3 h4;cases h4
    ·rename_i jj kk e cu' p e'' cs' h3 h4
     cases h3;cases h4
     simp only [Bool.and_eq_true,beq_iff_eq] at hm
     obtain ⟨⟨⟨rfl,rfl⟩,hok⟩,hm'⟩:=hm
     simp only [RCL] at h1 h2
     have ih:=mt_row h hN hu hac (off:=off+1) hm' (fun i hi=>by
      have:=hf (i+1) (by simpa using hi)
      rw [show off+1+i=off+(i+1) from by omega,show kk+1+i=kk+(i+1) from by omega];exact this) (fun i jj c e hc=>by
      have:=hp (i+1) jj c e (by simpa using hc)
      rw [show off+1+i=off+(i+1) from by omega];exact this) h1.2 h2.2
     cases x with
     | v y=>simp [RC] at h2
     | s xs=>
      simp only [mixA,RCL]
      refine ⟨?_,ih⟩
      have hhead:=hp 0 jj kk e rfl
      simp only [Nat.add_zero] at hhead
      have h5:RC κ w (.sl (.own p) e') (u,[off]) (get off) r:=by
       have:RCL κ w [.sl (.own (some (jj,kk))) e] (u,[]) off get [r]:=by simp only [RCL];exact ⟨h1.1,trivial⟩
       have:=RCL_okC hok this
       simp only [RCL] at this
       simpa [Pl.at] using this.1
      rw [hhead,hac] at h5
      have hno:CT.allS (fun _=>False) (.sl (.own p) e'):=by
       have:=(okC_eq hok).2.2
       simp only [CT.noros,Bool.and_true] at this
       exact noro_allS this
      have h6:=RC_move (f:=id) (κ':=exC κ0 κ (exF es zs)) (w':=w) (p':=(jj,[kk])) (fun S hS=>hS.elim) hno (fun b q hb=>⟨?_,Same.refl w b⟩) h5
      ·rw [mapS_id] at h6
       simpa [Pl.at] using h6
      ·simp only [List.singleton_append] at hb ⊢
       rw [exC_at h hb hu]
       have:=hf 0 (by simp)
       simp only [Nat.add_zero] at this
       split at this
       ·rename_i e1 he
        simp only [exF,he,Option.map_some,this.1,this.2]
       ·exact this.elim
    ·cases hm
end
def rvReg:ResultVar->Nat
 | .tmp t=>t
 | .cell a _=>a
def getRegs (s:Nat->AV):List Nat->Option (List A)
 | []=>some []
 | t::ts=>match getA t s,getRegs s ts with
  | some as,some r=>some (as++r)
  | _,_=>none
theorem rvX_t {P:Program} {D:List TT} {rv:ResultVar} {I:RvI} (h:rvX P D rv=some I):I.reg=rvReg rv:=by
 cases rv with
 | tmp t=>
  simp only [rvX] at h;split at h
  ·cases h;rfl
  ·split at h
   ·split at h
    ·cases h;rfl
    ·cases h
   ·cases h
  ·cases h
 | cell a ty=>
  simp only [rvX] at h;split at h
  ·split at h
   ·cases h;rfl
   ·cases h
  ·cases h
theorem getRv_eq {P:Program} {D:List TT} {s:Nat->AV}:∀{rvs:List ResultVar} {Is:List RvI},rvXs P D rvs=some Is->getRv s Is=getRegs s (rvs.map rvReg)
 | [],Is,h=>by simp only [rvXs,Option.some.injEq] at h;subst h;rfl
 | rv::rvs,Is,h=>by
  simp only [rvXs] at h;split at h
  ·rename_i I Is' h1 h2;cases h;simp only [getRv,List.map_cons,getRegs,rvX_t h1,getRv_eq h2];rfl
  ·cases h
def itemEs (np:Nat):List RvI->Nat->List Ent
 | [],_=>[]
 | I::Is,b=>(if CT.nowns I.cs then [] else [⟨I.t,I.off,I.cs.length,np,b⟩])++itemEs np Is (b+I.cs.length)
def resEnd (P:Program) (sg:Sig) (D:List TT) (rvs:List ResultVar) (ou:Ou):Option (List Ent × List (Nat × Nat)):=
 let np:=sg.ps.length
 match sg.res,rvs with
 | .u,[]=>some ((ouEs sg ou).1,(ouEs sg ou).2)
 | .bx cs,[.tmp t]=>match gt D t with
  | .box cr=>
   let es:=⟨t,0,cr.length,np,0⟩::(ouEs sg ou).1
   let zs:=(t,np)::(ouEs sg ou).2
   if entOk es t 0 cr.length np 0&&srcOk sg es zs cr&&CT.les cr cs then some (es,zs) else none
  | _=>none
 | .one ag cs,[rv]=>match rvX P D rv with
  | some I=>
   let es:=itemEs np [I] 0++(ouEs sg ou).1
   let zs:=(ouEs sg ou).2
   if itemsOk sg es zs np [I] 0&&(I.ag == ag)&&CT.les I.cs cs then some (es,zs) else none
  | none=>none
 | .tup ws cs,rvs=>match rvXs P D rvs with
  | some Is=>
   let es:=itemEs np Is 0++(ouEs sg ou).1
   let zs:=(ouEs sg ou).2
   if itemsOk sg es zs np Is 0&&decide (Is.map (fun I=>(I.ag,I.cs.length))=ws)&&CT.les (Is.flatMap (·.cs)) cs&&decide (2<=rvs.length) then some (es,zs) else none
  | none=>none
 | _,_=>none
def dstOk (sg:Sig) (d:Nat):Bool:=(d == sg.ps.length) || (match sg.ps[d]? with
 | some pm=>pm.mut
 | none=>false)
def endOk (P:Program) (sg:Sig) (rvs:List ResultVar) (ou:Ou) (D:List TT):Bool:=
 match resEnd P sg D rvs ou with
 | some (es,zs)=>ouOk sg D es zs ou&&es.all (fun e=>dstOk sg e.d)&&zs.all (fun z=>dstOk sg z.2)
 | none=>false
def chkFn (P:Program) (sigs:FuncId->Option Sig) (K:FuncId) (sg:Sig) (h:HT) (ou:Ou):Option (CC × List Nat):=
 match P.funcs[K]? with
 | some fn=>match fn.body with
  | some c=>match chkC P sigs (prot sg) fn.ntmps h c (inD sg fn.ntmps) with
   | some (cc,out)=>if decide (sg.ps.length<=fn.ntmps)&&decide (fn.ntmps<=FB)&&sg.ps.all pmOk&&(out.n.toList++out.rt).all (endOk P sg fn.results.toList ou) then some (cc,fn.results.toList.map rvReg) else none
   | none=>none
  | none=>none
 | none=>none
section
variable {P:Program} {κ0 κ:Col} {w0 w:World} {N:Nat} {tg:Nat->TT} {sv s:Nat->AV} {a:Act} {D:List TT} {sg:Sig} {es:List Ent} {zs:List (Nat × Nat)} {ac:Nat->Nat->Value}
def outV:List Value->Value
 | [x]=>x
 | xs=>.tuple xs.toArray
theorem results_eq {fn:Func} {xs:List Value} (hl:xs.length=fn.results.toList.length) (h:∀(i:Nat) rv,fn.results.toList[i]?=some rv->∃x,xs[i]?=some x/\(rvRun a.tmps rv).run P w = .ok x w) :
  (results fn a.tmps).run P w = .ok (outV xs) w:=by
 have h1:(fn.results.mapM (rvRun a.tmps)).run P w = .ok xs.toArray w:=run_mapMw h hl;have h2:results fn a.tmps=(do
   let vs <-fn.results.mapM (rvRun a.tmps)
   pure (if h:vs.size=1 then vs[0] else .tuple vs):Sem Value):=by
  unfold results;congr 1
 rw [h2,run_ok h1];cases xs with
 | nil=>rfl
 | cons x xs=>
  cases xs with
  | nil=>rfl
  | cons y xs=>rfl
theorem resEnd_ok (h:R ac κ0 w0 κ w N tg sv (gm a)) (hL:Le (gt D) s tg sv) (hN:sg.ps.length<=N) {fn:Func} {ou:Ou} (hre:resEnd P sg D fn.results.toList ou=some (es,zs)) {res:List A} (hres:getRegs s (fn.results.toList.map rvReg)=some res) :
  ∃v,(results fn a.tmps).run P w = .ok v w/\ResR (exC κ0 κ (exF es zs)) w sg.ps.length v res sg.res:=by
 unfold resEnd at hre;simp only at hre;split at hre
 ·rename_i h1 h2;cases hre;rw [h2] at hres;refine ⟨.tuple #[],?_,?_⟩
  ·have:=results_eq (P:=P) (w:=w) (a:=a) (fn:=fn) (xs:=[]) (by rw [h2];rfl) (by rw [h2];simp);exact this
  ·rw [h1];rfl
 ·rename_i cs t h1 h2;split at hre;case h_2=>cases hre
  case h_1 cr hT=>
  split at hre;case isFalse=>cases hre
  case isTrue hc=>
  cases hre;simp only [Bool.and_eq_true] at hc;rw [h2] at hres;simp only [List.map_cons,List.map_nil,rvReg,getRegs] at hres;split at hres;case h_2=>cases hres
  case h_1 as r hg hr=>
  cases hr;cases hres;rw [List.append_nil];obtain ⟨is,hs⟩:=getA_some hg;obtain ⟨e1,e2⟩:=hL.at hT (by simp);have k1:=h.tr t;rw [e1] at k1;simp only [TR] at k1;obtain ⟨as',b,g1,g2,g3,g4,g5,_,g7⟩:=k1;rw [e2,hs] at g1;cases g1;have htN:t<N:=by
   apply Nat.lt_of_not_le;intro hle;have:=h.out t hle;rw [e1] at this;cases this
  have hne:t≠FB:=Nat.ne_of_lt (Nat.lt_of_lt_of_le htN h.nle);refine ⟨.pointer (some ⟨b,0,none⟩),?_,?_⟩
  ·have:=results_eq (P:=P) (w:=w) (a:=a) (fn:=fn) (xs:=[.pointer (some ⟨b,0,none⟩)]) (by rw [h2];rfl) (fun i rv hi=>by
    rw [h2] at hi
    cases i with
    | zero=>simp at hi;subst hi;exact ⟨_,rfl,by show (pure (gm a t):Sem Value).run P w=_;rw [g2];rfl⟩
    | succ i=>simp at hi)
   exact this
  ·rw [h1];refine ⟨b,rfl,g3,?_,by rw [<-les_length hc.2];exact g5,RCL_le hc.2 (row_out h hN hne (by rw [hc.1.1];simp) (srcss_good hc.1.2) (fun i _=>rfl) g7)⟩;rw [exC_at h g4 hne];simp [exF]
 ·rename_i ag cs rv h1 h2;split at hre;case h_2=>cases hre
  case h_1 I hI=>
  split at hre;case isFalse=>cases hre
  case isTrue hc=>
  cases hre;simp only [Bool.and_eq_true,beq_iff_eq] at hc;have hIs:rvXs P D [rv]=some [I]:=by simp only [rvXs,hI]
  rw [h2,<-getRv_eq hIs] at hres;obtain ⟨xs,vs,k1,k2,k3,k4,k5,k6⟩:=items_ok (np:=sg.ps.length) (pre:=[]) (base:=0) h hL hN hIs hc.1.1 hres rfl;obtain ⟨x,rfl,hx⟩:=k5 I rfl;refine ⟨x,?_,?_⟩
  ·exact results_eq (P:=P) (w:=w) (a:=a) (fn:=fn) (xs:=[x]) (by rw [h2];rfl) (by rw [h2];exact k2)
  ·rw [h1];simp only [List.flatMap_cons,List.flatMap_nil,List.append_nil,List.nil_append] at k4 k6;exact ⟨vs,by rw [<-hc.1.2];exact hx,by rw [<-les_length hc.2];exact k4,RCL_le hc.2 k6⟩
 ·rename_i ws cs h1;split at hre;case h_2=>cases hre
  case h_1 Is hIs=>
  split at hre;case isFalse=>cases hre
  case isTrue hc=>
  cases hre;simp only [Bool.and_eq_true,decide_eq_true_eq] at hc;rw [<-getRv_eq hIs] at hres;obtain ⟨xs,vs,k1,k2,k3,k4,k5,k6⟩:=items_ok (np:=sg.ps.length) (pre:=[]) (base:=0) h hL hN hIs hc.1.1.1 hres rfl;refine ⟨.tuple xs.toArray,?_,?_⟩
  ·have:=results_eq (P:=P) (w:=w) (a:=a) (fn:=fn) (xs:=xs) k1 k2;rw [this];have hlen:2<=xs.length:=by rw [k1];exact hc.2
   cases xs with
   | nil=>simp at hlen
   | cons x xs=>
    cases xs with
    | nil=>simp at hlen
    | cons y xs=>rfl
  ·rw [h1];simp only [List.nil_append] at k6;exact ⟨xs.toArray,vs,rfl,by rw [<-hc.1.1.2];exact k3,by rw [<-les_length hc.1.2];exact k4,RCL_le hc.1.2 k6⟩
 ·cases hre
theorem dstOk_at {d:Nat} (h:dstOk sg d=true):d=sg.ps.length\/∃pm,sg.ps[d]?=some pm/\pm.mut=true:=by
 unfold dstOk at h;simp only [Bool.or_eq_true,beq_iff_eq] at h;rcases h with h|h
 ·exact .inl h
 ·split at h
  ·rename_i pm hpm;exact .inr ⟨pm,hpm,h⟩
  ·cases h
theorem exC_mine (he:es.all (fun e=>dstOk sg e.d)=true) (hz:zs.all (fun z=>dstOk sg z.2)=true) {b r:Nat} {q:List Nat} (hk:exC κ0 κ (exF es zs) b=some (r,q)) :
  (r=FB/\∃q',κ0 b=some (FB,q'))\/r=sg.ps.length\/∃pm,sg.ps[r]?=some pm/\pm.mut=true:=by
 rcases exC_cases hk with ⟨rfl,h0⟩|⟨r0,q0,h1,h2⟩
 ·exact .inl ⟨rfl,_,h0⟩
 ·right;cases q0 with
  | nil=>
   simp only [exF,Option.map_eq_some_iff,Prod.mk.injEq] at h2;obtain ⟨z,hz1,rfl,_⟩:=h2;exact dstOk_at ((List.all_eq_true.1 hz) z (List.mem_of_find?_eq_some hz1))
  | cons j q=>
   simp only [exF,Option.map_eq_some_iff,Prod.mk.injEq] at h2;obtain ⟨e,he1,rfl,_⟩:=h2;exact dstOk_at ((List.all_eq_true.1 he) e (List.mem_of_find?_eq_some he1))
theorem outs_row {j i:Nat} {o as:List A} (h:(List.replicate j []++[o])[i]?=some as):(i<j/\as=[])\/(i=j/\as=o):=by
 rw [List.getElem?_append] at h;split at h
 ·rename_i hi;simp only [List.length_replicate] at hi;rw [List.getElem?_replicate] at h;rw [if_pos hi] at h;cases h;exact .inl ⟨hi,rfl⟩
 ·rename_i hi;simp only [List.length_replicate] at hi h;cases hd:i-j with
  | zero=>rw [hd] at h;simp at h;subst h;exact .inr ⟨by omega,rfl⟩
  | succ k=>rw [hd] at h;simp at h
theorem ouOk_ok (h:R ac κ0 w0 κ w N tg sv (gm a)) (hL:Le (gt D) s tg sv) (hN:sg.ps.length<=N) {ou:Ou} (hou:ouOk sg D es zs ou=true) {xs:List Value} {args:List (List A)}
  (hac:∀j k ag cs x,sg.ps[j]?=some (.mt ag cs)->xs[j]?=some x->ac j k=((cellsOf ag x).getD []).getD k undef) (hpar:∀i,prot sg i=true->gm a i=xs.getD i undef)
  (hargs:∀i pm x as,sg.ps[i]?=some pm->xs[i]?=some x->args[i]?=some as->ArgR κ0 w0 i x as pm) (hal:args.length=sg.ps.length)
  {o:List A} (ho:getOu args s ou=some o):∀i pm x as,sg.ps[i]?=some pm->xs[i]?=some x->(List.replicate ou.j []++[o])[i]?=some as->OutR (exC κ0 κ (exF es zs)) w i x as pm:=by
 intro i pm x as hpm hx has;have triv:PM.outs (some pm)=false->OutR (exC κ0 κ (exF es zs)) w i x as pm:=by
  intro hf;cases pm<;>first
   | trivial
   | (simp [PM.outs] at hf)
 have other:∀j,noOut sg j=true->i≠j->PM.outs (some pm)=false:=by
  intro j hno hij;have:=(List.all_eq_true.1 hno) i (List.mem_range.2 (List.getElem?_eq_some_iff.1 hpm).1);rw [hpm] at this;simpa [hij] using this
 cases ou with
 | no=>
  refine triv ?_;have:=(List.all_eq_true.1 hou) i (List.mem_range.2 (List.getElem?_eq_some_iff.1 hpm).1);rw [hpm] at this;simpa using this
 | mp j=>
  simp only [ouOk,Bool.and_eq_true] at hou;rcases outs_row has with ⟨hi,_⟩|⟨hij,rfl⟩
  ·exact triv (other j hou.1 (by have:i<j:=hi;omega))
  ·have hij:j=i:=hij.symm;subst hij;have hou2:=hou.2;rw [hpm] at hou2;split at hou2;case h_2=>cases hou2
   case h_1 cs cr hpm' hT=>
   cases hpm';simp only [Bool.and_eq_true] at hou2;obtain ⟨⟨hok,hent⟩,hz⟩:=hou2;simp only [getOu] at ho;obtain ⟨is,hs⟩:=getA_some ho;obtain ⟨e1,e2⟩:=hL.at hT (by simp);have k1:=h.tr j;rw [e1] at k1;simp only [TR] at k1;obtain ⟨as',b,g1,g2,g3,g4,g5,_,g7⟩:=k1;rw [e2,hs] at g1;cases g1;have hjp:=(List.getElem?_eq_some_iff.1 hpm).1;have hne:j≠FB:=by have:=h.nle;omega
   have hxj:x = .pointer (some ⟨b,0,none⟩):=by
    have:=hpar j (by unfold prot;rw [hpm];rfl);rw [List.getD_eq_getElem?_getD,hx,g2] at this;exact this.symm
   simp only [okE,Bool.and_eq_true,List.all_eq_true,decide_eq_true_eq,bne_iff_ne] at hok;have heq:=CT.beqs_eq hok.1.1;have hlen:cr.length=cs.length:=by
    have:=congrArg List.length heq;simpa [unpins_length,mapSs_length] using this
   have hexro:∀S,(∀m,m∈S->m∈CT.roSs cr)->∀b,okro κ w S b->okro (exC κ0 κ (exF es zs)) w [] b:=by
    intro S hS b hb;refine ⟨hb.1,fun r p hk => ?_⟩;exfalso;rcases exC_cases hk with ⟨rfl,h0⟩|⟨r0,q0,h1,h2⟩
    ·have h1:=(h.fb b p h0).1;have h2:=(hok.2 _ (hS _ (hb.2 _ _ h1).1)).1.1;omega
    ·have h3:=hok.2 _ (hS _ (hb.2 _ _ h1).1);cases q0 with
     | nil=>
      simp only [exF,Option.map_eq_some_iff] at h2;obtain ⟨z,hz,_⟩:=h2;have h4:=List.find?_some hz;exact h3.2 z (List.mem_of_find?_eq_some hz) (by simpa using h4)
     | cons k q=>
      simp only [exF,Option.map_eq_some_iff] at h2;obtain ⟨e,he,_⟩:=h2;have h4:=List.find?_some he;simp only [Ent.hit,Bool.and_eq_true,beq_iff_eq] at h4;exact h3.1.2 e (List.mem_of_find?_eq_some he) h4.1.1
   refine ⟨b,hxj,g3,?_,by rw [<-hlen];exact g5,?_⟩
   ·rw [exC_at h g4 hne];split at hz
    ·rename_i p hp;simp only [beq_iff_eq] at hz;simp only [exF,hp,Option.map_some,hz]
    ·cases hz
   ·have h8:=RCL_moves (f:=fun _=>[]) (P:=fun S=>∀m,m∈S->m∈CT.roSs cr) (κ':=exC κ0 κ (exF es zs)) (w':=w) (p':=(j,[])) (j':=0) (get':=cellD w b) (fun S hS b hb=>⟨hexro S hS b hb,Same.refl w b⟩) (roSs_allSs fun m hm=>hm) (fun i hi b2 q hb=>⟨?_,Same.refl w b2⟩) (fun i hi=>rfl) g7
    ·have h9:=RCL_unpin.2 h8;rw [heq] at h9;exact RCL_unpin.1 h9
    ·simp only [List.nil_append] at hb ⊢;rw [exC_at h hb hne];simp only [entOk,List.all_eq_true] at hent;have h1:=hent i (List.mem_range.2 (by omega));split at h1
     ·rename_i e he;simp only [Bool.and_eq_true,beq_iff_eq] at h1;simp only [exF,he,Option.map_some,h1.1,h1.2]
     ·cases h1
 | mt j u off=>
  simp only [ouOk,Bool.and_eq_true] at hou;rcases outs_row has with ⟨hi,_⟩|⟨hij,rfl⟩
  ·exact triv (other j hou.1 (by have:i<j:=hi;omega))
  ·have hij:j=i:=hij.symm;subst hij;have hou2:=hou.2;rw [hpm] at hou2;split at hou2;case h_2=>cases hou2
   case h_1 ag cs cu hpm' hcu=>
   cases hpm';simp only [Bool.and_eq_true,decide_eq_true_eq] at hou2;obtain ⟨⟨hfit,hmt⟩,hent⟩:=hou2;simp only [getOu] at ho;split at ho;case h_2=>cases ho
   case h_1 ra asj hra haj=>
   cases ho;have hA:=hargs j _ x asj hpm hx haj;obtain ⟨vs,v1,v2,v3⟩:=hA;obtain ⟨is,hs⟩:=getA_some hra;obtain ⟨hcu',hsu⟩:=cts_ok hL hcu;obtain ⟨ra',hra'⟩:=h.sv_root hcu';rw [hsu,hs] at hra';cases hra';have hroot:=h.root hcu' (by rw [hsu,hs]);have hasl:asj.length=cs.length:=RCL_length v3;have hrow:=RCL_take cs.length (RCL_drop off hroot);rw [Nat.zero_add] at hrow;have huN:u<N:=by
    apply Nat.lt_of_not_le;intro hle;have:=h.out u hle;rw [this] at hcu';simp [TT.cts] at hcu'
   have hpins:Pins ac cu (rg w (tg u) (gm a u)):=by
    have k1:=h.tr u;cases hT:tg u with
    | val ag' cs'=>
     rw [hT] at k1 hcu';simp only [TT.cts,Option.some.injEq] at hcu';subst hcu';simp only [TR] at k1;obtain ⟨as,ws,g1,g2,g3,g4,g5⟩:=k1;have:rg w (.val ag' cs') (gm a u)=fun k=>ws.getD k undef:=by funext k;simp [rg,g2]
     rw [this];exact g4
    | box cs'=>
     rw [hT] at k1 hcu';simp only [TT.cts,Option.some.injEq] at hcu';subst hcu';simp only [TR] at k1;obtain ⟨as,b,g1,g2,g3,g4,g5,g6,g7⟩:=k1;have:rg w (.box cs') (gm a u)=cellD w b:=by funext k;simp [rg,g2]
     rw [this];exact g6
    | dead=>rw [hT] at hcu';simp [TT.cts] at hcu'
    | alias=>rw [hT] at hcu';simp [TT.cts] at hcu'
    | ptr=>rw [hT] at hcu';simp [TT.cts] at hcu'
    | tup=>rw [hT] at hcu';simp [TT.cts] at hcu'
   refine ⟨vs,v1,v2,?_⟩;rw [hasl];refine mt_row (j:=j) (u:=u) h hN (by have:=h.nle;omega) (vs:=vs) (fun k => ?_) hmt (fun i hi => ?_) (fun i jj c e hc => ?_) hrow v3
   ·rw [hac j k ag cs x hpm hx,v1];rfl
   ·have:=(List.all_eq_true.1 hent) i (List.mem_range.2 hi);split at this
    ·rename_i e he;rw [he];simpa using this
    ·cases this
   ·have hi:i<cs.length:=by
     have:=(List.getElem?_eq_some_iff.1 hc).1;simp only [List.length_take,List.length_drop] at this;omega
    rw [List.getElem?_take_of_lt hi,List.getElem?_drop] at hc;exact hpins _ _ _ _ hc
end
theorem fn_ok {P:Program} {sigs:FuncId->Option Sig} {K:FuncId} {sg:Sig} {h:HT} {ou:Ou} {cc:CC} {regs:List Nat} (hc:chkFn P sigs K sg h ou=some (cc,regs)) {args:List (List A)} {res o:List A}
  (hW:W P cc (inS args) fun e s=>(e = .normal\/e = .ret)/\getRegs s regs=some res/\getOu args s ou=some o):Good P K sg args res (List.replicate ou.j []++[o]):=by
 unfold chkFn at hc;split at hc;case h_2=>cases hc
 case h_1 fn hfn=>
 split at hc;case h_2=>cases hc
 case h_1 c hb=>
 split at hc;case h_2=>cases hc
 case h_1 cc' out hck=>
 split at hc;case isFalse=>cases hc
 case isTrue hcond=>
 cases hc;simp only [Bool.and_eq_true,decide_eq_true_eq] at hcond;obtain ⟨⟨⟨hN,hNF⟩,hpm⟩,hend⟩:=hcond;intro κ w xs hcol hmine hxl hal hargs;refine calls_of_wp hfn hb ?_;have hgm:∀t,gm { tmps:=xs.toArray++Array.replicate (fn.ntmps-xs.toArray.size) undef,defers:=[] } t=xs.getD t undef:=by
  intro t;simp only [gm,Array.getD_eq_getD_getElem?,List.getD_eq_getElem?_getD,Array.getElem?_append,Array.getElem?_replicate];by_cases ht:t<xs.length
  ·simp [ht]
  ·simp only [List.size_toArray,if_neg ht];rw [List.getElem?_eq_none (by omega)];split<;>rfl
 have hR0:=init_R hcol hxl hal hargs hN hNF hpm;have hRD:RD (prot sg) (fun i=>xs.getD i undef) (acOf sg xs) κ w fn.ntmps (gt (inD sg fn.ntmps)) (inS args) { tmps:=xs.toArray++Array.replicate (fn.ntmps-xs.toArray.size) undef,defers:=[] } w:=by
  refine ⟨⟨κ,_,_,?_,fun t=>.inr ⟨rfl,rfl⟩⟩,?_,rfl,fun i _=>hgm i⟩
  ·have:gm { tmps:=xs.toArray++Array.replicate (fn.ntmps-xs.toArray.size) undef,defers:=[] }=fun t=>xs.getD t undef:=funext hgm
   rw [this];exact hR0
  ·simp;omega
 refine wp_mono (chkC_ok hck hRD hW) fun e a w' hp => ?_
 have fin:∀s D,D∈out.n.toList++out.rt->getRegs s (fn.results.toList.map rvReg)=some res->getOu args s ou=some o->RD (prot sg) (fun i=>xs.getD i undef) (acOf sg xs) κ w fn.ntmps (gt D) s a w' ->
   a.defers=[]/\∃v,(results fn a.tmps).run P w' = .ok v w'/\∃v' κ',Ending.returned v = .returned v'/\Post sg κ w xs res (List.replicate ou.j []++[o]) κ' w' v':=by
  intro s D hD hres ho hRD;obtain ⟨κ1,tg,sv,hR,hL⟩:=hRD.st;have hE:=(List.all_eq_true.1 hend) D hD;unfold endOk at hE;split at hE;case h_2=>cases hE
  case h_1 es zs hre=>
  simp only [Bool.and_eq_true] at hE;obtain ⟨v,hv,hrr⟩:=resEnd_ok hR hL hN hre hres;refine ⟨hRD.defers,v,hv,v,exC κ κ1 (exF es zs),rfl,⟨fun b hb => ?_,⟨hR.fr.size,fun b hb h0 => ?_,hR.fr.os,hR.fr.out,hR.fr.tape⟩,fun b q h0 => ?_,fun b r q hk=>exC_mine hE.1.2 hE.2 hk,hrr,?_⟩⟩
  ·have hk:=hR.col b hb;unfold exC;split
   ·rename_i r q h0;split
    ·rename_i he;subst he;have:=(hR.fb b q h0).1;rw [hk] at this;cases this
    ·rw [hk];rfl
   ·rw [hk];rfl
  ·have hk:=hR.fr.kept b hb h0;refine ⟨?_,hk.2⟩;unfold exC;rw [h0,hk.1];rfl
  ·refine ⟨?_,(hR.fb b q h0).2⟩;unfold exC;rw [h0];simp
  ·refine ouOk_ok hR hL hN hE.1.1 (xs:=xs) (args:=args) (fun j k ag cs x hj hx => ?_) hRD.par hargs hal ho;unfold acOf;rw [hj,hx]
 cases e with
 | normal=>
  obtain ⟨s,D,h1,⟨_,h2,h3⟩,h4⟩:=hp;obtain ⟨k1,v,k2,k3⟩:=fin s D (by simp [h1]) h2 h3 h4;exact ⟨k1,v,k2,k3⟩
 | ret=>
  obtain ⟨s,D,h1,⟨_,h2,h3⟩,h4⟩:=hp;obtain ⟨k1,v,k2,k3⟩:=fin s D (by simp [h1]) h2 h3 h4;exact ⟨k1,v,k2,k3⟩
 | exit id=>
  obtain ⟨s,D,h1,⟨h2,_⟩,_⟩:=hp;rcases h2 with h2|h2<;>cases h2
 | goto l=>exact hp
 | panic c=>exact hp.elim
 | outgrown=>exact hp.elim
end Go.Fw
namespace Go.Fw
inductive TY where
 | b
 | i (k:IntKind)
 | s
 | sl (e:List TY)
mutual
def TY.beq:TY->TY->Bool
 | .b,.b=>true
 | .s,.s=>true
 | .i k,.i k'=>decide (k=k')
 | .sl e,.sl e'=>TY.beqs e e'
 | _,_=>false
def TY.beqs:List TY->List TY->Bool
 | [],[]=>true
 | c::cs,c'::cs'=>c.beq c'&&TY.beqs cs cs'
 | _,_=>false
end
mutual
theorem TY.beq_eq:∀{c c':TY},c.beq c'=true->c=c'
 | .b,c',h=>by cases c'<;>simp [TY.beq] at h;rfl
 | .s,c',h=>by cases c'<;>simp [TY.beq] at h;rfl
 | .i k,c',h=>by cases c'<;>simp [TY.beq] at h;rw [h]
 | .sl e,c',h=>by
  cases c' with
  | sl e'=>simp only [TY.beq] at h;rw [TY.beqs_eq h]
  | _=>simp [TY.beq] at h
theorem TY.beqs_eq:∀{cs cs':List TY},TY.beqs cs cs'=true->cs=cs'
 | [],cs',h=>by cases cs'<;>simp [TY.beqs] at h;rfl
 | c::cs,cs',h=>by
  cases cs' with
  | nil=>simp [TY.beqs] at h
  | cons c' cs'=>
   simp only [TY.beqs,Bool.and_eq_true] at h;rw [TY.beq_eq h.1,TY.beqs_eq h.2]
end
mutual
def den:TY->Type
 | .b=>Bool
 | .i _=>Int
 | .s=>ByteArray
 | .sl e=>List (denL e)
def denL:List TY->Type
 | []=>Unit
 | [c]=>den c
 | c::c'::cs=>den c × denL (c'::cs)
end
def consL {c:TY}:{cs:List TY}->den c->denL cs->denL (c::cs)
 | [],x,_=>x
 | _::_,x,r=>(x,r)
def headL {c:TY}:{cs:List TY}->denL (c::cs)->den c
 | [],x=>x
 | _::_,x=>x.1
def tailL {c:TY}:{cs:List TY}->denL (c::cs)->denL cs
 | [],_=>()
 | _::_,x=>x.2
theorem headL_consL {c:TY} {cs:List TY} (x:den c) (r:denL cs):headL (consL x r)=x:=by cases cs<;>rfl
theorem tailL_consL {c:TY} {cs:List TY} (x:den c) (r:denL cs):tailL (consL x r)=r:=by cases cs<;>rfl
mutual
def enc:(c:TY)->den c->A
 | .b,x=>.v (.bool x)
 | .i k,x=>.v (.int k x)
 | .s,x=>.v (.string x)
 | .sl e,x=>.s (List.map (encL e) x)
def encL:(cs:List TY)->denL cs->List A
 | [],_=>[]
 | [c],x=>[enc c x]
 | c::c'::cs,x=>enc c x.1::encL (c'::cs) x.2
end
abbrev lst {e:List TY} (v:den (.sl e)):List (denL e):=v
theorem enc_sl {e:List TY} (v:den (.sl e)):enc (.sl e) v = .s (List.map (encL e) (lst v)):=by simp only [enc]
theorem encL_cons {c:TY} {cs:List TY} (x:denL (c::cs)):encL (c::cs) x=enc c (headL x)::encL cs (tailL x):=by
 cases cs with
 | nil=>simp [encL,headL]
 | cons c' cs=>simp [encL,headL,tailL]
theorem encL_consL {c:TY} {cs:List TY} (x:den c) (r:denL cs):encL (c::cs) (consL x r)=enc c x::encL cs r:=by
 rw [encL_cons,headL_consL,tailL_consL]
theorem encL_len:∀{cs:List TY} (x:denL cs),(encL cs x).length=cs.length
 | [],x=>by simp [encL]
 | c::cs,x=>by rw [encL_cons];simp [encL_len]
def dropL:(n:Nat)->(cs:List TY)->denL cs->denL (cs.drop n)
 | 0,_,x=>x
 | _+1,[],x=>x
 | n+1,_::cs,x=>dropL n cs (tailL x)
def takeL:(n:Nat)->(cs:List TY)->denL cs->denL (cs.take n)
 | 0,_,_=>()
 | _+1,[],x=>x
 | n+1,_::cs,x=>consL (headL x) (takeL n cs (tailL x))
theorem encL_drop:∀{n:Nat} {cs:List TY} {x:denL cs},encL (cs.drop n) (dropL n cs x)=(encL cs x).drop n
 | 0,_,_=>rfl
 | _+1,[],x=>rfl
 | n+1,c::cs,x=>by
  rw [encL_cons x];exact encL_drop (n:=n) (cs:=cs) (x:=tailL x)
theorem encL_take:∀{n:Nat} {cs:List TY} {x:denL cs},encL (cs.take n) (takeL n cs x)=(encL cs x).take n
 | 0,_,_=>rfl
 | _+1,[],x=>rfl
 | n+1,c::cs,x=>by
  refine (encL_consL (headL x) (takeL n cs (tailL x))).trans ?_;rw [encL_cons x,List.take_succ_cons,encL_take]
def subL {B:Type} (cs:List TY) (x:denL cs) (off n:Nat) (k:(cs':List TY)->denL cs'->B):B:=
 bif Nat.beq off 0&&Nat.ble cs.length n then k cs x else k ((cs.drop off).take n) (takeL n _ (dropL off cs x))
theorem subL_ok {B:Type} {cs:List TY} {x:denL cs} {off n:Nat} {k:(cs':List TY)->denL cs'->B}:∃cs' y,subL cs x off n k=k cs' y/\encL cs' y=((encL cs x).drop off).take n:=by
 unfold subL;cases h:(Nat.beq off 0&&Nat.ble cs.length n) with
 | true=>
  simp only [Bool.and_eq_true] at h;refine ⟨cs,x,rfl,?_⟩;have h1:=Nat.eq_of_beq_eq_true h.1;have h2:=Nat.le_of_ble_eq_true h.2;subst h1;rw [List.drop_zero,List.take_of_length_le (by rw [encL_len];exact h2)]
 | false=>exact ⟨_,_,rfl,by rw [encL_take,encL_drop]⟩
def castL {B:Type} (cs cs':List TY) (x:denL cs) (k:denL cs'->Option B):Option B:=
 if h:TY.beqs cs cs'=true then k ((TY.beqs_eq h)▸x) else none
theorem castL_ok {B:Type} {cs cs':List TY} {x:denL cs} {k:denL cs'->Option B} {a:B} (h:castL cs cs' x k=some a):∃y,k y=some a/\encL cs' y=encL cs x:=by
 unfold castL at h;split at h
 ·rename_i hb;have he:=TY.beqs_eq hb;subst he;exact ⟨_,h,rfl⟩
 ·cases h
def castT {B:Type} (c c':TY) (x:den c) (k:den c'->Option B):Option B:=
 if h:TY.beq c c'=true then k ((TY.beq_eq h)▸x) else none
theorem castT_ok {B:Type} {c c':TY} {x:den c} {k:den c'->Option B} {a:B} (h:castT c c' x k=some a):∃y,k y=some a/\enc c' y=enc c x:=by
 unfold castT at h;split at h
 ·rename_i hb;have he:=TY.beq_eq hb;subst he;exact ⟨_,h,rfl⟩
 ·cases h
def splL {B:Type}:(cs:List TY)->denL cs->(off:Nat)->(cs':List TY)->denL cs'->(denL cs->Option B)->Option B
 | cs,x,0,[],_,k=>k x
 | [],_,0,_::_,_,_=>none
 | c::cs,x,0,c'::cs',y,k=>castT c' c (headL y) fun v=>splL cs (tailL x) 0 cs' (tailL y) fun r=>k (consL v r)
 | [],_,_+1,_,_,_=>none
 | _::cs,x,n+1,cs',y,k=>splL cs (tailL x) n cs' y fun r=>k (consL (headL x) r)
theorem splL_ok {B:Type}:∀{cs:List TY} {x:denL cs} {off:Nat} {cs':List TY} {y:denL cs'} {k:denL cs->Option B} {a:B},splL cs x off cs' y k=some a ->
  ∃z,k z=some a/\encL cs z=splice (encL cs x) off (encL cs' y)
 | cs,x,0,[],_,k,a,h=>by
  refine ⟨x,by cases cs<;>exact h,?_⟩;simp [splice,encL]
 | [],_,0,_::_,_,_,_,h=>by simp [splL] at h
 | c::cs,x,0,c'::cs',y,k,a,h=>by
  simp only [splL] at h;obtain ⟨v,h1,h2⟩:=castT_ok h;obtain ⟨r,h3,h4⟩:=splL_ok h1;refine ⟨_,h3,?_⟩;rw [encL_consL,h2,h4,encL_cons x,encL_cons y];simp only [splice,List.take_zero,List.nil_append,List.length_cons,Nat.zero_add,List.cons_append,List.drop_succ_cons]
 | [],x,n+1,cs',y,k,a,h=>by simp [splL] at h
 | c::cs,x,n+1,cs',y,k,a,h=>by
  simp only [splL] at h;obtain ⟨r,h3,h4⟩:=splL_ok h;refine ⟨_,h3,?_⟩;rw [encL_consL,h4,encL_cons x];simp only [splice,List.take_succ_cons,List.cons_append,Nat.add_right_comm n 1,List.drop_succ_cons]
def modC {B:Type}:(cs:List TY)->denL cs->Nat->(f:(c:TY)->den c->(den c->Option B)->Option B)->(denL cs->Option B)->Option B
 | [],_,_,_,_=>none
 | c::_,x,0,f,k=>f c (headL x) fun v=>k (consL v (tailL x))
 | _::cs,x,n+1,f,k=>modC cs (tailL x) n f fun r=>k (consL (headL x) r)
theorem modC_ok {B:Type} {a:B} {f:(c:TY)->den c->(den c->Option B)->Option B}:∀{cs:List TY} {x:denL cs} {n:Nat} {k:denL cs->Option B},modC cs x n f k=some a ->
  ∃c v k',(encL cs x)[n]?=some (enc c v)/\f c v k'=some a/\∀v',k' v'=some a->∃z,k z=some a/\encL cs z=(encL cs x).set n (enc c v')
 | [],_,_,_,h=>by simp [modC] at h
 | c::cs,x,0,k,h=>by
  simp only [modC] at h;refine ⟨c,headL x,_,by rw [encL_cons];rfl,h,fun v' hv=>⟨_,hv,?_⟩⟩;rw [encL_consL,encL_cons x];rfl
 | c::cs,x,n+1,k,h=>by
  simp only [modC] at h;obtain ⟨c',v,k',h1,h2,h3⟩:=modC_ok h;refine ⟨c',v,k',by rw [encL_cons];simpa using h1,h2,fun v' hv => ?_⟩;obtain ⟨z,h4,h5⟩:=h3 v' hv;refine ⟨_,h4,?_⟩;rw [encL_consL,encL_cons x,h5];rfl
def getC {B:Type}:(cs:List TY)->denL cs->Nat->((c:TY)->den c->Option B)->Option B
 | [],_,_,_=>none
 | c::_,x,0,k=>k c (headL x)
 | _::cs,x,n+1,k=>getC cs (tailL x) n k
theorem getC_ok {B:Type} {a:B}:∀{cs:List TY} {x:denL cs} {n:Nat} {k:(c:TY)->den c->Option B},getC cs x n k=some a->∃c v,(encL cs x)[n]?=some (enc c v)/\k c v=some a
 | [],_,_,_,h=>by simp [getC] at h
 | c::cs,x,0,k,h=>⟨c,headL x,by rw [encL_cons];rfl,h⟩
 | c::cs,x,n+1,k,h=>by
  obtain ⟨c',v,h1,h2⟩:=getC_ok (cs:=cs) (x:=tailL x) h;exact ⟨c',v,by rw [encL_cons];simpa using h1,h2⟩
def lookT {B:Type}:(cs:List TY)->denL cs->Sk->List Nat->((cs':List TY)->denL cs'->Option B)->Option B
 | cs,x,[],[],k=>k cs x
 | cs,x,(c,_)::sk,i::is,k=>getC cs x c fun t v=>match t,v with
  | .sl e,l=>Option.bind (@getElem? (List (denL e)) Nat _ _ _ l i) fun y=>lookT e y sk is k
  | _,_=>none
 | _,_,_,_,_=>none
theorem lookT_ok {B:Type} {a:B}:∀{sk:Sk} {cs:List TY} {x:denL cs} {is:List Nat} {k:(cs':List TY)->denL cs'->Option B},lookT cs x sk is k=some a->∃e y,lookL (encL cs x) sk is=some (encL e y)/\k e y=some a
 | [],cs,x,[],k,h=>⟨cs,x,rfl,h⟩
 | [],cs,x,_::_,k,h=>by simp [lookT] at h
 | _::_,cs,x,[],k,h=>by simp [lookT] at h
 | (c,n)::sk,cs,x,i::is,k,h=>by
  simp only [lookT] at h;obtain ⟨t,v,h1,h2⟩:=getC_ok h;cases t with
  | sl e=>
   simp only [Option.bind_eq_some_iff] at h2;obtain ⟨y,hy,h3⟩:=h2;obtain ⟨e',y',h4,h5⟩:=lookT_ok h3;refine ⟨e',y',?_,h5⟩;rw [enc_sl] at h1;simp only [lookL,h1,List.getElem?_map];rw [show (lst v)[i]?=some y from hy];exact h4
  | _=>cases h2
def updT {B:Type} (f:(e:List TY)->denL e->(denL e->Option B)->Option B):(cs:List TY)->denL cs->Sk->List Nat->(denL cs->Option B)->Option B
 | cs,x,[],[],k=>f cs x k
 | cs,x,(c,_)::sk,i::is,k=>modC cs x c (fun t v k'=>match t,v,k' with
  | .sl e,l,k'=>Option.bind (@getElem? (List (denL e)) Nat _ _ _ l i) fun y=>updT f e y sk is fun y'=>k' (List.set (α:=denL e) l i y')
  | _,_,_=>none) k
 | _,_,_,_,_=>none
theorem updT_ok {B:Type} {a:B} {f:(e:List TY)->denL e->(denL e->Option B)->Option B} {g:List A->List A} (hf:∀e y k,f e y k=some a->∃z,k z=some a/\encL e z=g (encL e y)) :
  ∀{sk:Sk} {cs:List TY} {x:denL cs} {is:List Nat} {k:denL cs->Option B},updT f cs x sk is k=some a->∃row z,lookL (encL cs x) sk is=some row/\k z=some a/\encL cs z=setL (encL cs x) sk is (g row)
 | [],cs,x,[],k,h=>by
  obtain ⟨z,h1,h2⟩:=hf _ _ _ h;exact ⟨_,z,rfl,h1,h2⟩
 | [],cs,x,_::_,k,h=>by simp [updT] at h
 | _::_,cs,x,[],k,h=>by simp [updT] at h
 | (c,n)::sk,cs,x,i::is,k,h=>by
  simp only [updT] at h;obtain ⟨t,v,k',h1,h2,h3⟩:=modC_ok h;cases t with
  | sl e=>
   simp only [Option.bind_eq_some_iff] at h2;obtain ⟨y,hy,h4⟩:=h2;obtain ⟨row,z,h5,h6,h7⟩:=updT_ok hf h4;obtain ⟨w,h8,h9⟩:=h3 _ h6;refine ⟨row,w,?_,h8,?_⟩
   ·rw [enc_sl] at h1;simp only [lookL,h1,List.getElem?_map];rw [show (lst v)[i]?=some y from hy];exact h5
   ·rw [h9,show enc (.sl e) (List.set v i z) = .s (List.map (encL e) ((lst v).set i z)) from enc_sl (e:=e) ((lst v).set i z)];rw [enc_sl] at h1;simp only [setL,h1,List.getElem?_map];rw [show (lst v)[i]?=some y from hy];simp only [Option.map_some];rw [<-h7,List.map_set]
  | _=>cases h2
mutual
def zT:(c:TY)->den c
 | .b=>false
 | .i _=>(0:Int)
 | .s=>ByteArray.empty
 | .sl _=>[]
def zL:(cs:List TY)->denL cs
 | []=>()
 | [c]=>zT c
 | c::c'::cs=>(zT c,zL (c'::cs))
end
def decT (c:TY) (v:Value):Option (den c):=
 match c,v with
 | .b,.bool x=>some x
 | .i k,.int k' n=>if k=k' then some n else none
 | .s,.string x=>some x
 | .sl _,.slice none 0 0=>some []
 | _,_=>none
def decL:(cs:List TY)->List Value->Option (denL cs)
 | [],[]=>some ()
 | c::cs,v::vs=>match decT c v,decL cs vs with
  | some x,some r=>some (consL x r)
  | _,_=>none
 | _,_=>none
end Go.Fw
namespace Go.Fw
inductive BV where
 | n
 | v (cs:List TY) (x:denL cs) (is:List Nat)
 | p (is:List Nat)
def BV.av:BV->AV
 | .n=>.n
 | .v cs x is=>.v (encL cs x) is
 | .p is=>.p is
abbrev TS:=Nat->BV
def Sub (s:TS) (sA:Nat->AV):Prop:=∀t,s t = .n\/sA t=(s t).av
def ups {α:Type} (f:Nat->α) (d:Nat) (v:α) (t:Nat):α:=bif Nat.beq t d then v else f t
theorem ups_upd {α:Type} (f:Nat->α) (d:Nat) (v:α):ups f d v=upd f d v:=by
 funext t;unfold ups upd;by_cases h:t=d
 ·subst h;simp
 ·have:Nat.beq t d=false:=by
   cases hb:Nat.beq t d with
   | false=>rfl
   | true=>exact absurd (Nat.eq_of_beq_eq_true hb) h
  rw [this,if_neg h];rfl
def upz:TS->List Nat->List BV->TS
 | s,d::ds,v::vs=>ups (upz s ds vs) d v
 | s,_,_=>s
theorem Sub.ups {s:TS} {sA:Nat->AV} (h:Sub s sA) (d:Nat) (v:BV):Sub (ups s d v) (upd sA d v.av):=by
 intro t;rw [ups_upd];unfold upd;by_cases ht:t=d
 ·rw [if_pos ht,if_pos ht];exact .inr rfl
 ·rw [if_neg ht,if_neg ht];exact h t
theorem Sub.upz {s:TS} {sA:Nat->AV} (h:Sub s sA):∀(ds:List Nat) (vs:List BV),Sub (upz s ds vs) (upds sA (ds.zip (vs.map BV.av)))
 | [],_=>by simpa [Fw.upz,upds] using h
 | d::ds,[]=>by simpa [Fw.upz,upds] using h
 | d::ds,v::vs=>by
  have:=(h.upz ds vs).ups d v;intro t;rcases this t with h1|h1
  ·exact .inl h1
  ·right;simp only [Fw.upz,List.map_cons,List.zip_cons_cons,upds];unfold upd at h1;exact h1
structure SV where
 t:TY
 x:den t
def SV.is (y:SV) (v:Value):Prop:=enc y.t y.x = .v v/\sc v=true
def DX.c' {B:Type} (s:TS) (k:SV->Option B):DX->Option B
 | .t i=>match s i with
  | .v [.b] x _=>k ⟨.b,x⟩
  | .v [.i n] x _=>k ⟨.i n,x⟩
  | .v [.s] x _=>k ⟨.s,x⟩
  | _=>none
 | .c v=>match v with
  | .bool b=>k ⟨.b,b⟩
  | .int n x=>k ⟨.i n,x⟩
  | .string x=>k ⟨.s,x⟩
  | _=>none
theorem DXc_ok {B:Type} {s:TS} {sA:Nat->AV} (hs:Sub s sA) {k:SV->Option B} {a:B} {X:DX} (h:X.c' s k=some a):∃y v,X.get sA=some v/\SV.is y v/\k y=some a:=by
 cases X with
 | t i=>
  simp only [DX.c'] at h;split at h
  ·rename_i x is hi;have:=(hs i).resolve_left (by rw [hi];simp);rw [hi] at this;refine ⟨_,(.bool x:Value),?_,⟨by simp only [enc],rfl⟩,h⟩;simp only [DX.get,this,BV.av,encL,enc]
  ·rename_i n x is hi;have:=(hs i).resolve_left (by rw [hi];simp);rw [hi] at this;refine ⟨_,(.int n x:Value),?_,⟨by simp only [enc],rfl⟩,h⟩;simp only [DX.get,this,BV.av,encL,enc]
  ·rename_i x is hi;have:=(hs i).resolve_left (by rw [hi];simp);rw [hi] at this;refine ⟨_,(.string x:Value),?_,⟨by simp only [enc],rfl⟩,h⟩;simp only [DX.get,this,BV.av,encL,enc]
  ·cases h
 | c v=>
  cases v<;>simp only [DX.c'] at h<;>first
   | cases h
   | exact ⟨_,_,rfl,⟨rfl,rfl⟩,h⟩
def DXs.c' {B:Type} (s:TS):List DX->(List SV->Option B)->Option B
 | [],k=>k []
 | X::Xs,k=>X.c' s fun y=>DXs.c' s Xs fun ys=>k (y::ys)
def isL:List SV->List Value->Prop
 | [],[]=>True
 | y::ys,v::vs=>SV.is y v/\isL ys vs
 | _,_=>False
theorem DXsc_ok {B:Type} {s:TS} {sA:Nat->AV} (hs:Sub s sA):∀{Xs:List DX} {k:List SV->Option B} {a:B},DXs.c' s Xs k=some a->∃ys vs,DXs sA Xs=some vs/\isL ys vs/\k ys=some a
 | [],k,a,h=>⟨[],[],rfl,trivial,h⟩
 | X::Xs,k,a,h=>by
  simp only [DXs.c'] at h;obtain ⟨y,v,h1,h2,h3⟩:=DXc_ok hs h;obtain ⟨ys,vs,h4,h5,h6⟩:=DXsc_ok hs h3;exact ⟨y::ys,v::vs,by simp only [DXs,h1,h4],⟨h2,h5⟩,h6⟩
def cmpC (op:BinOp) (a b:Int):Option Bool:=
 match op with
 | .eql=>some (decide (a=b))
 | .neq=>some (!decide (a=b))
 | .lss=>some (decide (a<b))
 | .leq=>some (decide (a<=b))
 | .gtr=>some (decide (b<a))
 | .geq=>some (decide (b<=a))
 | _=>none
theorem cmpC_eq (op:BinOp) (a b:Int):cmpC op a b=intCmp op a b:=by
 cases op<;>simp only [cmpC,intCmp]<;>first
  | rfl
  | (congr 1;rw [Bool.eq_iff_iff];simp)
def bnd {B:Type} (len:Nat) (i:Int) (k:Nat->Option B):Option B:=if 0<=i/\i.toNat<len then k i.toNat else none
def binC {B:Type} (op:BinOp) (k:IntKind) (a b:Int) (K:SV->Option B):Option B:=
 match op with
 | .add=>K ⟨.i k,k.wrap (a+b)⟩
 | .sub=>K ⟨.i k,k.wrap (a-b)⟩
 | .mul=>K ⟨.i k,k.wrap (a*b)⟩
 | .quo=>cond (decide (b=0)) none (K ⟨.i k,k.wrap (a.tdiv b)⟩)
 | .rem=>cond (decide (b=0)) none (K ⟨.i k,a.tmod b⟩)
 | .and=>K ⟨.i k,bits .and k a b⟩
 | .or=>K ⟨.i k,bits .or k a b⟩
 | .xor=>K ⟨.i k,bits .xor k a b⟩
 | .andNot=>K ⟨.i k,bits .andNot k a b⟩
 | .eql=>K ⟨.b,decide (a=b)⟩
 | .neq=>K ⟨.b,!decide (a=b)⟩
 | .lss=>K ⟨.b,decide (a<b)⟩
 | .leq=>K ⟨.b,decide (a<=b)⟩
 | .gtr=>K ⟨.b,decide (b<a)⟩
 | .geq=>K ⟨.b,decide (b<=a)⟩
 | .shl=>cond (decide (b<0)) none (K ⟨.i k,k.wrap (a*2 ^ (Nat.min b.toNat k.bits))⟩)
 | .shr=>cond (decide (b<0)) none (K ⟨.i k,a.fdiv (2 ^ (Nat.min b.toNat k.bits))⟩)
def isSh:BinOp->Bool
 | .shl=>true
 | .shr=>true
 | _=>false
def strC {B:Type} (op:BinOp) (a b:ByteArray) (K:SV->Option B):Option B:=
 match op with
 | .add=>cond (decide (a.size+b.size<=4611686018427387904)) (K ⟨.s,a++b⟩) none
 | .eql=>K ⟨.b,a.toList == b.toList⟩
 | .neq=>K ⟨.b,!(a.toList == b.toList)⟩
 | .lss=>K ⟨.b,Op.bytesLess a.toList b.toList⟩
 | .leq=>K ⟨.b,Op.bytesLess a.toList b.toList || a.toList == b.toList⟩
 | .gtr=>K ⟨.b,!(Op.bytesLess a.toList b.toList || a.toList == b.toList)⟩
 | .geq=>K ⟨.b,!Op.bytesLess a.toList b.toList⟩
 | _=>none
abbrev dI {k:IntKind} (x:den (.i k)):Int:=x
abbrev dB (x:den .b):Bool:=x
abbrev dS (x:den .s):ByteArray:=x
def dfC {B:Type} (f:DF) (xs:List SV) (K:SV->Option B):Option B:=
 match f,xs with
 | .bin op,[⟨.i k,a⟩,⟨.i k',b⟩]=>bif isSh op || decide (k=k') then binC op k (dI a) (dI b) K else none
 | .bin op,[⟨.s,a⟩,⟨.s,b⟩]=>strC op (dS a) (dS b) K
 | .beq ne,[⟨.b,a⟩,⟨.b,b⟩]=>K ⟨.b,bif ne then !(dB a == dB b) else dB a == dB b⟩
 | .not,[⟨.b,a⟩]=>K ⟨.b,!(dB a)⟩
 | .neg,[⟨.i k,a⟩]=>K ⟨.i k,k.wrap (0-dI a)⟩
 | .conv k,[⟨.i _,a⟩]=>K ⟨.i k,k.wrap (dI a)⟩
 | .min,[⟨.i k,a⟩,⟨.i _,b⟩]=>K ⟨.i k,if dI b<dI a then dI b else dI a⟩
 | .max,[⟨.i k,a⟩,⟨.i _,b⟩]=>K ⟨.i k,if dI b > dI a then dI b else dI a⟩
 | .sidx,[⟨.s,s⟩,⟨.i _,i⟩]=>bnd (dS s).size (dI i) fun n=>Option.bind (dS s)[n]? fun b=>K ⟨.i .u8,(b.toNat:Int)⟩
 | .slen,[⟨.s,s⟩]=>K ⟨.i .i64,((dS s).size:Int)⟩
 | .ssl lo hi,⟨.s,s⟩::is=>match lo,hi,is with
  | false,false,[]=>K ⟨.s,(dS s).extract 0 (dS s).size⟩
  | true,false,[⟨.i _,l⟩]=>cond (decide (0<=dI l/\dI l<=(dS s).size)) (K ⟨.s,(dS s).extract (dI l).toNat (dS s).size⟩) none
  | false,true,[⟨.i _,h⟩]=>cond (decide (0<=dI h/\dI h<=(dS s).size)) (K ⟨.s,(dS s).extract 0 (dI h).toNat⟩) none
  | true,true,[⟨.i _,l⟩,⟨.i _,h⟩]=>cond (decide (0<=dI l/\dI l<=dI h/\dI h<=(dS s).size)) (K ⟨.s,(dS s).extract (dI l).toNat (dI h).toNat⟩) none
  | _,_,_=>none
 | _,_=>none
theorem isL_cons {y:SV} {ys:List SV} {vs:List Value} (h:isL (y::ys) vs):∃v vs',vs=v::vs'/\SV.is y v/\isL ys vs':=by
 cases vs with
 | nil=>simp [isL] at h
 | cons v vs=>exact ⟨v,vs,rfl,h.1,h.2⟩
theorem isL_nil {vs:List Value} (h:isL [] vs):vs=[]:=by
 cases vs with
 | nil=>rfl
 | cons=>simp [isL] at h
theorem is_i {k:IntKind} {a:den (.i k)} {v:Value} (h:SV.is ⟨.i k,a⟩ v):v = .int k a:=by
 have:=h.1;simp only [enc,A.v.injEq] at this;exact this.symm
theorem is_b {a:den .b} {v:Value} (h:SV.is ⟨.b,a⟩ v):v = .bool a:=by
 have:=h.1;simp only [enc,A.v.injEq] at this;exact this.symm
theorem is_s {a:den .s} {v:Value} (h:SV.is ⟨.s,a⟩ v):v = .string a:=by
 have:=h.1;simp only [enc,A.v.injEq] at this;exact this.symm
theorem cond_some {B:Type} {c:Bool} {x y:Option B} {a:B} (h:cond c x y=some a):(c=true/\x=some a)\/(c=false/\y=some a):=by
 cases c
 ·exact .inr ⟨rfl,h⟩
 ·exact .inl ⟨rfl,h⟩
theorem isI (k:IntKind) (a:Int):SV.is ⟨.i k,a⟩ (.int k a):=⟨by simp only [enc],rfl⟩
theorem isB (a:Bool):SV.is ⟨.b,a⟩ (.bool a):=⟨by simp only [enc],rfl⟩
theorem isS (a:ByteArray):SV.is ⟨.s,a⟩ (.string a):=⟨by simp only [enc],rfl⟩
theorem binC_ok {B:Type} {op:BinOp} {k:IntKind} {a b:Int} {K:SV->Option B} {r:B} (h:binC op k a b K=some r) (hsh:isSh op=false):∃y v,dfe (.bin op) [.int k a,.int k b]=some v/\SV.is y v/\K y=some r:=by
 cases op<;>simp only [binC] at h<;>simp [isSh] at hsh<;>first
  | (refine ⟨_,_,?_,isB _,h⟩;simp only [dfe,intBin,<-cmpC_eq,cmpC];rfl)
  | (rcases cond_some h with ⟨_,h2⟩|⟨h1,h2⟩
     ·cases h2
     ·simp only [decide_eq_false_iff_not] at h1
      refine ⟨_,_,?_,isI _ _,h2⟩;simp only [dfe,intBin,if_neg h1];rfl)
  | (refine ⟨_,_,?_,isI _ _,h⟩;simp only [dfe,intBin];rfl)
theorem binC_sh {B:Type} {op:BinOp} {k k':IntKind} {a b:Int} {K:SV->Option B} {r:B} (h:binC op k a b K=some r) (hsh:isSh op=true):∃y v,dfe (.bin op) [.int k a,.int k' b]=some v/\SV.is y v/\K y=some r:=by
 cases op<;>simp [isSh] at hsh<;>simp only [binC] at h <;>
  (rcases cond_some h with ⟨_,h2⟩|⟨h1,h2⟩
   ·cases h2
   ·simp only [decide_eq_false_iff_not] at h1
    refine ⟨_,_,?_,isI _ _,h2⟩;simp only [dfe,shBin,if_neg h1];rfl)
theorem strC_ok {B:Type} {op:BinOp} {a b:ByteArray} {K:SV->Option B} {r:B} (h:strC op a b K=some r):∃y v,dfe (.bin op) [.string a,.string b]=some v/\SV.is y v/\K y=some r:=by
 cases op<;>simp only [strC] at h<;>first
  | cases h
  | (refine ⟨_,_,?_,isB _,h⟩;simp only [dfe,strCmp];rfl)
  | (rcases cond_some h with ⟨h1,h2⟩|⟨_,h2⟩
     ·simp only [decide_eq_true_eq] at h1
      refine ⟨_,_,?_,isS _,h2⟩;simp only [dfe,if_pos h1];rfl
     ·cases h2)
theorem bnd_some {B:Type} {len:Nat} {i:Int} {k:Nat->Option B} {a:B} (h:bnd len i k=some a):0<=i/\i.toNat<len/\k i.toNat=some a:=by
 unfold bnd at h;split at h
 ·rename_i hc;exact ⟨hc.1,hc.2,h⟩
 ·cases h
theorem dfC_ok {B:Type} {f:DF} {xs:List SV} {vs:List Value} {K:SV->Option B} {r:B} (hx:isL xs vs) (h:dfC f xs K=some r):∃y v,dfe f vs=some v/\SV.is y v/\K y=some r:=by
 unfold dfC at h;split at h
 ·rename_i op k a k' b;obtain ⟨v0,vs,rfl,g0,hx⟩:=isL_cons hx;obtain ⟨v1,vs,rfl,g1,hx⟩:=isL_cons hx;obtain rfl:=isL_nil hx;obtain rfl:=is_i g0;obtain rfl:=is_i g1;cases hsh:isSh op with
  | true=>
   rw [hsh] at h;exact binC_sh h hsh
  | false=>
   rw [hsh] at h;by_cases hk:k=k'
   ·subst hk;simp only [decide_true,Bool.or_true,cond_true] at h;exact binC_ok h hsh
   ·simp [hk] at h
 ·obtain ⟨v0,vs,rfl,g0,hx⟩:=isL_cons hx;obtain ⟨v1,vs,rfl,g1,hx⟩:=isL_cons hx;obtain rfl:=isL_nil hx;obtain rfl:=is_s g0;obtain rfl:=is_s g1;exact strC_ok h
 ·rename_i ne a b;obtain ⟨v0,vs,rfl,g0,hx⟩:=isL_cons hx;obtain ⟨v1,vs,rfl,g1,hx⟩:=isL_cons hx;obtain rfl:=isL_nil hx;obtain rfl:=is_b g0;obtain rfl:=is_b g1;refine ⟨_,_,?_,isB _,h⟩;cases ne<;>rfl
 ·obtain ⟨v0,vs,rfl,g0,hx⟩:=isL_cons hx;obtain rfl:=isL_nil hx;obtain rfl:=is_b g0;exact ⟨_,_,rfl,isB _,h⟩
 ·obtain ⟨v0,vs,rfl,g0,hx⟩:=isL_cons hx;obtain rfl:=isL_nil hx;obtain rfl:=is_i g0;exact ⟨_,_,rfl,isI _ _,h⟩
 ·obtain ⟨v0,vs,rfl,g0,hx⟩:=isL_cons hx;obtain rfl:=isL_nil hx;obtain rfl:=is_i g0;exact ⟨_,_,rfl,isI _ _,h⟩
 ·obtain ⟨v0,vs,rfl,g0,hx⟩:=isL_cons hx;obtain ⟨v1,vs,rfl,g1,hx⟩:=isL_cons hx;obtain rfl:=isL_nil hx;obtain rfl:=is_i g0;obtain rfl:=is_i g1;exact ⟨_,_,rfl,isI _ _,h⟩
 ·obtain ⟨v0,vs,rfl,g0,hx⟩:=isL_cons hx;obtain ⟨v1,vs,rfl,g1,hx⟩:=isL_cons hx;obtain rfl:=isL_nil hx;obtain rfl:=is_i g0;obtain rfl:=is_i g1;exact ⟨_,_,rfl,isI _ _,h⟩
 ·rename_i s k i;obtain ⟨v0,vs,rfl,g0,hx⟩:=isL_cons hx;obtain ⟨v1,vs,rfl,g1,hx⟩:=isL_cons hx;obtain rfl:=isL_nil hx;obtain rfl:=is_s g0;obtain rfl:=is_i g1;obtain ⟨h3,_,h4⟩:=bnd_some h;simp only [Option.bind_eq_some_iff] at h4;obtain ⟨b,h5,h6⟩:=h4;refine ⟨_,_,?_,isI _ _,h6⟩;simp only [dfe];rw [if_pos h3];show ((dS s)[(dI i).toNat]?).map _=_;rw [h5];rfl
 ·obtain ⟨v0,vs,rfl,g0,hx⟩:=isL_cons hx;obtain rfl:=isL_nil hx;obtain rfl:=is_s g0;exact ⟨_,_,rfl,isI _ _,h⟩
 ·obtain ⟨v,vs,rfl,h1,hx⟩:=isL_cons hx;obtain rfl:=is_s h1;split at h
  ·obtain rfl:=isL_nil ‹isL [] _›;exact ⟨_,_,rfl,isS _,h⟩
  ·have hx := ‹isL (_::_) vs›;obtain ⟨v0,vs,rfl,g0,hx⟩:=isL_cons hx;obtain rfl:=isL_nil hx;obtain rfl:=is_i g0;rcases cond_some h with ⟨h3,h4⟩|⟨_,h4⟩
   ·simp only [decide_eq_true_eq] at h3;refine ⟨_,_,?_,isS _,h4⟩;simp only [dfe];exact if_pos h3
   ·cases h4
  ·have hx := ‹isL (_::_) vs›;obtain ⟨v0,vs,rfl,g0,hx⟩:=isL_cons hx;obtain rfl:=isL_nil hx;obtain rfl:=is_i g0;rcases cond_some h with ⟨h3,h4⟩|⟨_,h4⟩
   ·simp only [decide_eq_true_eq] at h3;refine ⟨_,_,?_,isS _,h4⟩;simp only [dfe];exact if_pos h3
   ·cases h4
  ·have hx := ‹isL (_::_) vs›;obtain ⟨v0,vs,rfl,g0,hx⟩:=isL_cons hx;obtain ⟨v1,vs,rfl,g1,hx⟩:=isL_cons hx;obtain rfl:=isL_nil hx;obtain rfl:=is_i g0;obtain rfl:=is_i g1;rcases cond_some h with ⟨h3,h4⟩|⟨_,h4⟩
   ·simp only [decide_eq_true_eq] at h3;refine ⟨_,_,?_,isS _,h4⟩;simp only [dfe];exact if_pos h3
   ·cases h4
  ·cases h
 ·cases h
end Go.Fw
namespace Go.Fw
def getVc {B:Type} (s:TS) (t:Nat) (k:(cs:List TY)->denL cs->List Nat->Option B):Option B:=
 match s t with
 | .v cs x is=>k cs x is
 | _=>none
def getSc {B:Type} (s:TS) (t:Nat) (k:(e:List TY)->List (denL e)->List Nat->Option B):Option B:=
 match s t with
 | .v [.sl e] l is=>k e l is
 | _=>none
section
variable {B:Type} {s:TS} {sA:Nat->AV} {a:B}
theorem getVc_ok (hs:Sub s sA) {t:Nat} {k:(cs:List TY)->denL cs->List Nat->Option B} (h:getVc s t k=some a):∃cs x is,sA t = .v (encL cs x) is/\k cs x is=some a:=by
 unfold getVc at h;split at h
 ·rename_i cs x is ht;have:=(hs t).resolve_left (by rw [ht];simp);rw [ht] at this;exact ⟨cs,x,is,this,h⟩
 ·cases h
theorem getA_of {t:Nat} {as:List A} {is:List Nat} (h:sA t = .v as is):getA t sA=some as:=by
 simp only [getA,h]
theorem getSc_ok (hs:Sub s sA) {t:Nat} {k:(e:List TY)->List (denL e)->List Nat->Option B} (h:getSc s t k=some a):∃e l is,getS t sA=some (List.map (encL e) l,is)/\k e l is=some a:=by
 unfold getSc at h;split at h
 ·rename_i e l is ht;have:=(hs t).resolve_left (by rw [ht];simp);rw [ht] at this;refine ⟨e,l,is,?_,h⟩;simp only [getS,this,BV.av,encL,enc]
 ·cases h
end
inductive IX where
 | nil
 | t (i:Nat)
def IX.f:IX->(Nat->AV)->Option (List Nat)
 | .nil=>fun _=>some []
 | .t i=>getP i
def IX.c {B:Type} (s:TS) (k:List Nat->Option B):IX->Option B
 | .nil=>k []
 | .t i=>match s i with
  | .p is=>k is
  | _=>none
inductive OY where
 | t (i:Nat)
 | c (cs:List TY) (vs:List Value)
def OY.f:OY->(Nat->AV)->Option (List A)
 | .t i=>getA i
 | .c cs vs=>fun _=>(decL cs vs).map (encL cs)
def OY.c' {B:Type} (s:TS) (k:(cs:List TY)->denL cs->Option B):OY->Option B
 | .t i=>match s i with
  | .v cs x _=>k cs x
  | _=>none
 | .c cs vs=>match decL cs vs with
  | some x=>k cs x
  | none=>none
section
variable {B:Type} {s:TS} {sA:Nat->AV} {a:B}
theorem IX_ok (hs:Sub s sA) {X:IX} {k:List Nat->Option B} (h:X.c s k=some a):∃is,X.f sA=some is/\k is=some a:=by
 cases X with
 | nil=>exact ⟨[],rfl,h⟩
 | t i=>
  simp only [IX.c] at h;split at h
  ·rename_i is hi;have:=(hs i).resolve_left (by rw [hi];simp);rw [hi] at this;exact ⟨is,by simp only [IX.f,getP,this,BV.av],h⟩
  ·cases h
theorem OY_ok (hs:Sub s sA) {X:OY} {k:(cs:List TY)->denL cs->Option B} (h:X.c' s k=some a):∃cs x,X.f sA=some (encL cs x)/\k cs x=some a:=by
 cases X with
 | t i=>
  simp only [OY.c'] at h;split at h
  ·rename_i cs x is hi;have:=(hs i).resolve_left (by rw [hi];simp);rw [hi] at this;exact ⟨cs,x,by simp only [OY.f,getA,this,BV.av],h⟩
  ·cases h
 | c cs vs=>
  simp only [OY.c'] at h;split at h
  ·rename_i x hx;exact ⟨cs,x,by simp only [OY.f,hx,Option.map_some],h⟩
  ·cases h
end
inductive ED where
 | data (f:DF) (Xs:List DX)
 | copy (t:Nat)
 | same (t:Nat)
 | p0
 | nl
 | lit (cs:List TY) (vs:List Value)
 | load (r:Nat) (sk:Sk) (off:Nat) (ix:IX) (n:Nat) (al:Bool)
 | idx (ix:IX)
 | index (t:Nat) (I:DX)
 | a (X:OY)
 | store (r:Nat) (sk:Sk) (off:Nat) (ix:IX) (V:OY)
 | len (t:Nat)
 | app (X:Option Nat) (yt:Nat)
 | build (Z:List TY) (qs:List (Nat × OY))
 | sli (e:List TY) (qs:List OY)
 | make (X:DX) (e:List TY)
 | ext (t off n:Nat)
 | res (t:Nat) (L H:Option DX)
 | eqA (ks:List EK) (X Y:OY) (ne:Bool)
 | bytes (t:Nat)
def oxOf (X:OY):OX:=⟨true,[],0,true,X.f,[]⟩
def hxOf:Option Nat->HX
 | none=>.nil
 | some t=>.t t []
def ED.f:ED->(Nat->AV)->Option (List AV)
 | .data f Xs=>effData f Xs
 | .copy t=>effCopy t
 | .same t=>effSame t
 | .p0=>fun _=>some [.p []]
 | .nl=>fun _=>some [.n]
 | .lit cs vs=>fun _=>(decL cs vs).map fun x=>[.v (encL cs x) []]
 | .load r sk off ix n al=>effLoad ⟨r,sk,off,[],ix.f,[]⟩ n al
 | .idx ix=>effIdx ⟨0,[],0,[],ix.f,[]⟩
 | .index t I=>effIndex ⟨0,[],0,[],[],t⟩ I
 | .a X=>effA (oxOf X)
 | .store r sk off ix V=>effStore ⟨r,sk,off,[],ix.f,[]⟩ (oxOf V)
 | .len t=>effLen t
 | .app X yt=>effAppend (hxOf X) yt
 | .build Z qs=>effBuild (encL Z (zL Z)) (qs.map fun q=>⟨q.1,oxOf q.2⟩)
 | .sli _ qs=>effSli (qs.map fun q=>⟨0,oxOf q⟩)
 | .make X e=>effMake X (encL e (zL e))
 | .ext t off n=>effExt t off n
 | .res t L H=>effRes t L H
 | .eqA ks X Y ne=>effEqA ks X.f Y.f ne
 | .bytes t=>effBytes t
def natC {B:Type} (s:TS) (X:DX) (k:Nat->Option B):Option B:=
 X.c' s fun y=>match y with
  | ⟨.i _,n⟩=>cond (decide (0<=dI n)) (k (dI n).toNat) none
  | _=>none
def bdC {B:Type} (s:TS) (d:Nat) (X:Option DX) (k:Nat->Option B):Option B:=
 match X with
 | none=>k d
 | some X=>natC s X k
def bldC {B:Type} (s:TS) (Z:List TY):List (Nat × OY)->denL Z->(denL Z->Option B)->Option B
 | [],x,k=>k x
 | (o,X)::qs,x,k=>X.c' s fun cs y=>splL Z x o cs y fun x'=>bldC s Z qs x' k
def sliC {B:Type} (s:TS) (e:List TY):List OY->(List (denL e)->Option B)->Option B
 | [],k=>k []
 | X::qs,k=>X.c' s fun cs y=>castL cs e y fun y'=>sliC s e qs fun l=>k (y'::l)
def eqTC {B:Type}:List EK->(cs:List TY)->denL cs->(cs':List TY)->denL cs'->(Bool->Option B)->Option B
 | [],[],_,[],_,k=>k true
 | .b::ks,.b::cs,x,.b::cs',y,k=>eqTC ks cs (tailL x) cs' (tailL y) fun r=>k ((dB (headL x) == dB (headL y))&&r)
 | .i::ks,.i i::cs,x,.i i'::cs',y,k=>bif decide (i=i') then eqTC ks cs (tailL x) cs' (tailL y) fun r=>k (decide (dI (headL x)=dI (headL y))&&r) else none
 | .s::ks,.s::cs,x,.s::cs',y,k=>eqTC ks cs (tailL x) cs' (tailL y) fun r=>k (((dS (headL x)).toList == (dS (headL y)).toList)&&r)
 | _,_,_,_,_,_=>none
def ED.c {B:Type} (s:TS) (k:List BV->Option B):ED->Option B
 | .data f Xs=>DXs.c' s Xs fun ys=>dfC f ys fun y=>k [.v [y.t] y.x []]
 | .copy t=>getVc s t fun cs x _=>k [.v cs x []]
 | .same t=>match s t with
  | .n=>none
  | .v cs x is=>k [.v cs x is]
  | .p is=>k [.p is]
 | .p0=>k [.p []]
 | .nl=>k [.n]
 | .lit cs vs=>match decL cs vs with
  | some x=>k [.v cs x []]
  | none=>none
 | .load r sk off ix n al=>ix.c s fun is=>getVc s r fun cs x _=>lookT cs x sk is fun cs' y=>subL cs' y off n fun cs'' z=>k [.v cs'' z (bif al then is else [])]
 | .idx ix=>ix.c s fun is=>k [.p is]
 | .index t I=>getSc s t fun _ l is=>I.c' s fun y=>match y with
  | ⟨.i _,i⟩=>bnd l.length (dI i) fun n=>k [.p (is++[n])]
  | _=>none
 | .a X=>X.c' s fun cs x=>k [.v cs x []]
 | .store r sk off ix V=>ix.c s fun is=>getVc s r fun cs x _=>V.c' s fun cs' y=>updT (fun e row k'=>splL e row off cs' y k') cs x sk is fun z=>k [.v cs z []]
 | .len t=>getSc s t fun _ l _=>k [.v [.i .i64] (l.length:Int) []]
 | .app none yt=>getSc s yt fun e l _=>cond (decide (l.length<=4294967296)) (k [.v [.sl e] l []]) none
 | .app (some t) yt=>getSc s t fun e l _=>getSc s yt fun e' l' _=>castT (.sl e') (.sl e) l' fun l'=>cond (decide (l.length+(lst l').length<=4294967296)) (k [.v [.sl e] (l++lst l') []]) none
 | .build Z qs=>bldC s Z qs (zL Z) fun x=>k [.v Z x []]
 | .sli e qs=>sliC s e qs fun l=>k [.v [.sl e] l []]
 | .make X e=>natC s X fun n=>cond (decide (n<=4294967296)) (k [.v [.sl e] (List.replicate n (zL e)) []]) none
 | .ext t off n=>getVc s t fun cs x _=>subL cs x off n fun cs' y=>k [.v cs' y []]
 | .res t L H=>getSc s t fun e l _=>bdC s 0 L fun lo=>bdC s l.length H fun hi=>cond (decide (lo<=hi/\hi<=l.length)) (k [.v [.sl e] ((l.drop lo).take (hi-lo)) []]) none
 | .eqA ks X Y ne=>X.c' s fun cs x=>Y.c' s fun cs' y=>eqTC ks cs x cs' y fun r=>k [.v [.b] (bif ne then !r else r) []]
 | .bytes t=>getSc s t fun e l _=>match e,l with
  | [.i .u8],l=>k [.v [.s] (bytesStr l) []]
  | _,_=>none
section
variable {B:Type} {s:TS} {sA:Nat->AV} {a:B}
theorem eqTC_ok:∀{ks:List EK} {cs:List TY} {x:denL cs} {cs':List TY} {y:denL cs'} {k:Bool->Option B},eqTC ks cs x cs' y k=some a ->
  ∃xs ys r,unV (encL cs x)=some xs/\unV (encL cs' y)=some ys/\eqV ks xs ys=some r/\k r=some a:=by
 intro ks;induction ks with
 | nil=>
  intro cs x cs' y k h;cases cs<;>cases cs'<;>simp [eqTC] at h;exact ⟨[],[],true,rfl,rfl,rfl,h⟩
 | cons e ks ih=>
  intro cs x cs' y k h;unfold eqTC at h;split at h
  ·rename_i h1;cases h1
  ·rename_i h1;cases h1;rename_i cs x cs' y;obtain ⟨xs,ys,r,g1,g2,g3,g4⟩:=ih h;refine ⟨.bool (headL x)::xs,.bool (headL y)::ys,_,?_,?_,?_,g4⟩
   ·rw [encL_cons];simp only [enc,unV,g1,Option.map_some]
   ·rw [encL_cons];simp only [enc,unV,g2,Option.map_some]
   ·simp only [eqV,g3,Option.map_some]<;>rfl
  ·rename_i h1;cases h1;rcases cond_some h with ⟨h2,h⟩|⟨_,h⟩
   ·simp only [decide_eq_true_eq] at h2;subst h2;rename_i i0 cs x cs' y _;obtain ⟨xs,ys,r,g1,g2,g3,g4⟩:=ih h;refine ⟨.int i0 (headL x)::xs,.int i0 (headL y)::ys,_,?_,?_,?_,g4⟩
    ·rw [encL_cons];simp only [enc,unV,g1,Option.map_some]
    ·rw [encL_cons];simp only [enc,unV,g2,Option.map_some]
    ·simp only [eqV,g3,Option.map_some,if_true];rfl
   ·cases h
  ·rename_i h1;cases h1;rename_i cs x cs' y;obtain ⟨xs,ys,r,g1,g2,g3,g4⟩:=ih h;refine ⟨.string (headL x)::xs,.string (headL y)::ys,_,?_,?_,?_,g4⟩
   ·rw [encL_cons];simp only [enc,unV,g1,Option.map_some]
   ·rw [encL_cons];simp only [enc,unV,g2,Option.map_some]
   ·simp only [eqV,g3,Option.map_some]<;>rfl
  ·cases h
theorem bytesOf_map:∀l:List Int,bytesOf (List.map (encL [.i .u8]) l)=some l
 | []=>rfl
 | n::l=>by
  show bytesOf ([enc (.i .u8) n]::List.map (encL [.i .u8]) l)=_;simp only [enc,bytesOf,bytesOf_map l,Option.map_some]
theorem natC_ok (hs:Sub s sA) {X:DX} {k:Nat->Option B} (h:natC s X k=some a):∃v n,X.get sA=some v/\toN v=some n/\k n=some a:=by
 unfold natC at h;obtain ⟨y,v,h1,h2,h3⟩:=DXc_ok hs h;split at h3
 ·obtain rfl:=is_i h2;rcases cond_some h3 with ⟨h4,h5⟩|⟨_,h5⟩
  ·simp only [decide_eq_true_eq] at h4;exact ⟨_,_,h1,by simp only [toN];exact if_pos h4,h5⟩
  ·cases h5
 ·cases h3
theorem bdC_ok (hs:Sub s sA) {X:Option DX} {d:Nat} {k:Nat->Option B} (h:bdC s d X k=some a):∃n,boundX sA d X=some n/\k n=some a:=by
 cases X with
 | none=>exact ⟨d,rfl,h⟩
 | some X=>
  simp only [bdC] at h;obtain ⟨v,n,h1,h2,h3⟩:=natC_ok hs h;exact ⟨n,by simp only [boundX,h1,h2],h3⟩
theorem bldC_ok (hs:Sub s sA) {Z:List TY}:∀{qs:List (Nat × OY)} {x:denL Z} {k:denL Z->Option B},bldC s Z qs x k=some a ->
  ∃ass y,getAs sA (qs.map fun q=>⟨q.1,oxOf q.2⟩)=some ass/\encL Z y=spl (encL Z x) ((offsOf (qs.map fun q=>⟨q.1,oxOf q.2⟩)).zip ass)/\k y=some a
 | [],x,k,h=>⟨[],x,rfl,rfl,h⟩
 | (o,X)::qs,x,k,h=>by
  simp only [bldC] at h;obtain ⟨cs,y,h1,h2⟩:=OY_ok hs h;obtain ⟨x',h3,h4⟩:=splL_ok h2;obtain ⟨ass,z,h5,h6,h7⟩:=bldC_ok hs h3;refine ⟨encL cs y::ass,z,?_,?_,h7⟩
  ·simp only [List.map_cons,getAs,oxOf];rw [h1];simp only [oxOf] at h5;rw [h5]
  ·rw [h6,h4];rfl
theorem sliC_ok (hs:Sub s sA) {e:List TY}:∀{qs:List OY} {k:List (denL e)->Option B},sliC s e qs k=some a ->
  ∃l:List (denL e),getAs sA (qs.map fun q=>⟨0,oxOf q⟩)=some (l.map (encL e))/\k l=some a
 | [],k,h=>⟨[],rfl,h⟩
 | X::qs,k,h=>by
  simp only [sliC] at h;obtain ⟨cs,y,h1,h2⟩:=OY_ok hs h;obtain ⟨y',h3,h4⟩:=castL_ok h2;obtain ⟨l,h5,h6⟩:=sliC_ok hs h3;refine ⟨y'::l,?_,h6⟩;simp only [List.map_cons,getAs,oxOf];rw [h1,h4];simp only [oxOf] at h5;rw [h5]
theorem EDc_ok (hs:Sub s sA) {e:ED} {k:List BV->Option B} (h:e.c s k=some a):∃vs,e.f sA=some (vs.map BV.av)/\k vs=some a:=by
 cases e with
 | data f Xs=>
  simp only [ED.c] at h;obtain ⟨ys,vs,h1,h2,h3⟩:=DXsc_ok hs h;obtain ⟨y,v,h4,h5,h6⟩:=dfC_ok h2 h3;refine ⟨_,?_,h6⟩;simp only [ED.f,effData,h1,h4,List.map_cons,List.map_nil,BV.av];show _=some [AV.v (encL [y.t] y.x) []];rw [show encL [y.t] y.x=[enc y.t y.x] from by simp only [encL],h5.1]
 | copy t=>
  simp only [ED.c] at h;obtain ⟨cs,x,is,h1,h2⟩:=getVc_ok hs h;exact ⟨_,by simp only [ED.f,effCopy,getA_of h1,Option.map_some,List.map_cons,List.map_nil,BV.av],h2⟩
 | same t=>
  simp only [ED.c] at h;split at h
  ·cases h
  ·rename_i cs x is ht;have:=(hs t).resolve_left (by rw [ht];simp);rw [ht] at this;exact ⟨_,by simp only [ED.f,effSame,this,List.map_cons,List.map_nil],h⟩
  ·rename_i is ht;have:=(hs t).resolve_left (by rw [ht];simp);rw [ht] at this;exact ⟨_,by simp only [ED.f,effSame,this,List.map_cons,List.map_nil],h⟩
 | p0=>exact ⟨_,rfl,h⟩
 | nl=>exact ⟨_,rfl,h⟩
 | lit cs vs=>
  simp only [ED.c] at h;split at h
  ·rename_i x hx;exact ⟨_,by simp only [ED.f,hx,Option.map_some,List.map_cons,List.map_nil,BV.av],h⟩
  ·cases h
 | load r sk off ix n al=>
  simp only [ED.c] at h;obtain ⟨is,h1,h2⟩:=IX_ok hs h;obtain ⟨cs,x,is',h3,h4⟩:=getVc_ok hs h2;obtain ⟨e,y,h5,h6⟩:=lookT_ok h4;obtain ⟨cs',z,h7,h8⟩:=subL_ok (cs:=e) (x:=y) (off:=off) (n:=n) (k:=fun cs'' z=>k [.v cs'' z (bif al then is else [])]);rw [h7] at h6;refine ⟨_,?_,h6⟩;simp only [ED.f,effLoad,lookP,h1,getA_of h3,h5,List.map_cons,List.map_nil,BV.av,h8];cases al<;>rfl
 | idx ix=>
  simp only [ED.c] at h;obtain ⟨is,h1,h2⟩:=IX_ok hs h;exact ⟨_,by simp only [ED.f,effIdx,h1,Option.map_some,List.map_cons,List.map_nil,BV.av],h2⟩
 | index t I=>
  simp only [ED.c] at h;obtain ⟨e,l,is,h1,h2⟩:=getSc_ok hs h;obtain ⟨y,v,h3,h4,h5⟩:=DXc_ok hs h2;split at h5
  ·obtain rfl:=is_i h4;obtain ⟨h6,h7,h8⟩:=bnd_some h5;refine ⟨_,?_,h8⟩;simp only [ED.f,effIndex,h1,h3,toN];rw [if_pos h6];simp only [List.length_map];rw [if_pos h7];rfl
  ·cases h5
 | a X=>
  simp only [ED.c] at h;obtain ⟨cs,x,h1,h2⟩:=OY_ok hs h;exact ⟨_,by simp only [ED.f,effA,oxOf,h1,Option.map_some,List.map_cons,List.map_nil,BV.av],h2⟩
 | store r sk off ix V=>
  simp only [ED.c] at h;obtain ⟨is,h1,h2⟩:=IX_ok hs h;obtain ⟨cs,x,is',h3,h4⟩:=getVc_ok hs h2;obtain ⟨cs',y,h5,h6⟩:=OY_ok hs h4;obtain ⟨row,z,h7,h8,h9⟩:=updT_ok (g:=fun row=>splice row off (encL cs' y)) (fun e y' k' hk=>by
   obtain ⟨z,g1,g2⟩:=splL_ok hk
   exact ⟨z,g1,g2⟩) h6
  refine ⟨_,?_,h8⟩;simp only [ED.f,effStore,oxOf,h1,getA_of h3,h5,h7,List.map_cons,List.map_nil,BV.av,h9]
 | len t=>
  simp only [ED.c] at h;obtain ⟨e,l,is,h1,h2⟩:=getSc_ok hs h;refine ⟨_,?_,h2⟩;simp only [ED.f,effLen,h1,List.map_cons,List.map_nil,BV.av,encL,enc,List.length_map]
 | app X yt=>
  cases X with
  | none=>
   simp only [ED.c] at h;obtain ⟨e,l,is,h1,h2⟩:=getSc_ok hs h;rcases cond_some h2 with ⟨h3,h4⟩|⟨_,h4⟩
   ·simp only [decide_eq_true_eq] at h3;refine ⟨_,?_,h4⟩;simp only [ED.f,effAppend,hxOf,HX.get,h1,List.length_map,List.length_nil,Nat.zero_add];rw [if_pos h3];simp only [List.nil_append,List.map_cons,List.map_nil,BV.av,encL,enc]
   ·cases h4
  | some t=>
   simp only [ED.c] at h;obtain ⟨e,l,is,h1,h2⟩:=getSc_ok hs h;obtain ⟨e',l',is',h3,h4⟩:=getSc_ok hs h2;obtain ⟨l2,h5,h6⟩:=castT_ok h4;rcases cond_some h5 with ⟨h7,h8⟩|⟨_,h8⟩
   ·simp only [decide_eq_true_eq] at h7;refine ⟨_,?_,h8⟩;have h9:List.map (encL e) (lst l2)=List.map (encL e') l':=by
     have h6':=(enc_sl l2).symm.trans (h6.trans (enc_sl (e:=e') l'));exact A.s.inj h6'
    have h10:(lst l2).length=l'.length:=by simpa using congrArg List.length h9
    simp only [ED.f,effAppend,hxOf,HX.get,h1,h3,Option.map_some,List.length_map];rw [h10] at h7;rw [if_pos h7];simp only [List.map_cons,List.map_nil,BV.av,encL];rw [show enc (.sl e) (l++lst l2) = .s (List.map (encL e) (l++lst l2)) from enc_sl (e:=e) (l++lst l2),List.map_append,h9]
   ·cases h8
 | build Z qs=>
  simp only [ED.c] at h;obtain ⟨ass,y,h1,h2,h3⟩:=bldC_ok hs h;refine ⟨_,?_,h3⟩;simp only [ED.f,effBuild,h1,List.map_cons,List.map_nil,BV.av,h2]
 | sli e qs=>
  simp only [ED.c] at h;obtain ⟨l,h1,h2⟩:=sliC_ok hs h;refine ⟨_,?_,h2⟩;simp only [ED.f,effSli,h1,List.map_cons,List.map_nil,BV.av,encL,enc]
 | make X e=>
  simp only [ED.c] at h;obtain ⟨v,n,h1,h2,h3⟩:=natC_ok hs h;rcases cond_some h3 with ⟨h4,h5⟩|⟨_,h5⟩
  ·simp only [decide_eq_true_eq] at h4;refine ⟨_,?_,h5⟩;simp only [ED.f,effMake,h1,h2];rw [if_pos h4];simp only [List.map_cons,List.map_nil,BV.av,encL,enc];rw [List.map_replicate]
  ·cases h5
 | ext t off n=>
  simp only [ED.c] at h;obtain ⟨cs,x,is',h3,h4⟩:=getVc_ok hs h;obtain ⟨cs',z,h7,h8⟩:=subL_ok (cs:=cs) (x:=x) (off:=off) (n:=n) (k:=fun cs' y=>k [.v cs' y []]);rw [h7] at h4;refine ⟨_,?_,h4⟩;simp only [ED.f,effExt,getA_of h3,Option.map_some,List.map_cons,List.map_nil,BV.av,h8]
 | res t L H=>
  simp only [ED.c] at h;obtain ⟨e,l,is,h1,h2⟩:=getSc_ok hs h;obtain ⟨lo,h3,h4⟩:=bdC_ok hs h2;obtain ⟨hi,h5,h6⟩:=bdC_ok hs h4;rcases cond_some h6 with ⟨h7,h8⟩|⟨_,h8⟩
  ·simp only [decide_eq_true_eq] at h7;refine ⟨_,?_,h8⟩;simp only [ED.f,effRes,h1,h3,List.length_map,h5];rw [if_pos h7];simp only [List.map_cons,List.map_nil,BV.av,encL,enc,List.map_take,List.map_drop]
  ·cases h8
 | eqA ks X Y ne=>
  simp only [ED.c] at h;obtain ⟨cs,x,h1,h2⟩:=OY_ok hs h;obtain ⟨cs',y,h3,h4⟩:=OY_ok hs h2;obtain ⟨xs,ys,r,h5,h6,h7,h8⟩:=eqTC_ok h4;refine ⟨_,?_,h8⟩;simp only [ED.f,effEqA,h1,h3,h5,h6,h7,List.map_cons,List.map_nil,BV.av,encL,enc];cases ne<;>rfl
 | bytes t=>
  simp only [ED.c] at h;obtain ⟨e,l,is,h1,h2⟩:=getSc_ok hs h;split at h2
  ·refine ⟨_,?_,h2⟩;rename_i l0;simp only [ED.f,effBytes,h1];have hb:bytesOf (List.map (encL [.i .u8]) l0)=some l0:=bytesOf_map l0;generalize bytesOf (List.map (encL [.i .u8]) l0)=z at hb ⊢;subst hb;simp only [List.map_cons,List.map_nil,BV.av,encL,enc]
  ·cases h2
end
end Go.Fw
namespace Go.Fw
def denLL:List (List TY)->Type
 | []=>Unit
 | [p]=>denL p
 | p::p'::ps=>denL p × denLL (p'::ps)
def encLL:(ps:List (List TY))->denLL ps->List (List A)
 | [],_=>[]
 | [p],x=>[encL p x]
 | p::p'::ps,x=>encL p x.1::encLL (p'::ps) x.2
def consLL {p:List TY}:{ps:List (List TY)}->denL p->denLL ps->denLL (p::ps)
 | [],x,_=>x
 | _::_,x,r=>(x,r)
theorem encLL_cons {p:List TY} {ps:List (List TY)} (x:denL p) (r:denLL ps):encLL (p::ps) (consLL x r)=encL p x::encLL ps r:=by
 cases ps<;>simp [encLL,consLL]
structure TSp where
 sg:Sig
 ps:List (List TY)
 rs:List TY
 os:List TY
 j:Nat
 f:denLL ps->Option (denL rs × denL os)
def TSp.outs (sp:TSp) (o:denL sp.os):List (List A):=List.replicate sp.j []++[encL sp.os o]
def TSp.Ok (P:Program) (K:FuncId) (sp:TSp):Prop:=∀xs r o,sp.f xs=some (r,o)->Good P K sp.sg (encLL sp.ps xs) (encL sp.rs r) (sp.outs o)
abbrev TEnv:=FuncId->Option TSp
inductive KT where
 | no
 | mt (r:Nat) (sk:Sk) (off t j:Nat)
 | mp (j:Nat)
def KT.sk:KT->SK
 | .no=>.no
 | .mt r sk off t j=>.mt r sk off 0 t j
 | .mp j=>.mp 0 [] [] j
inductive TE where
 | det (nu:Nat) (e:ED)
 | pick (c:Nat) (X Y:DX)
 | call (nu:Nat) (K:FuncId) (gets:List OY) (k:KT)
structure TO where
 al:Bool
 tks:List Nat
 hd:List Nat
 e:TE
 ds:List Nat
 d:Option Nat
 gd:Option (Nat × Bool)
structure PK where
 t:Nat
 cs:List TY
 al:Bool
inductive TC where
 | skip
 | rg (ops:List TO)
 | seq (a b:TC)
 | cond (X:DX) (a b:TC)
 | block (id:Nat) (b:TC)
 | loop (pk:List PK) (dd:Nat) (b:TC)
 | exit (id:Nat)
 | ret
 | join (pk:List PK) (dd:Nat) (pr:Option (List PK)) (a:TC)
structure WO where
 eff:Bool->Eff
 cb:(Nat->AV)->Option Bool
 ds:List Nat
 d:Option Nat
 gd:Option (Nat × Bool)
inductive WC where
 | skip
 | rg (ops:List WO)
 | seq (a b:WC)
 | cond (X:DX) (a b:WC)
 | block (id:Nat) (b:WC)
 | loop (b:WC)
 | exit (id:Nat)
 | ret
def OpR.wo (o:OpR):WO:=⟨fun b=>(o.S b).eff,o.cb,o.up.map (·.1),o.d,o.gd⟩
def CC.wc:CC->WC
 | .skip=>.skip
 | .rg rs=>.rg (rs.map OpR.wo)
 | .seq a b=>.seq a.wc b.wc
 | .cond X a b=>.cond X a.wc b.wc
 | .block id b=>.block id b.wc
 | .loop b=>.loop b.wc
 | .exit id=>.exit id
 | .ret=>.ret
def want2 (rs:List WO) (wl:List Bool) (s:Nat->AV) (o:WO):Bool:=
 match o.gd with
 | none=>true
 | some (j,b)=>wl.getD j false&&(match (match rs[j]? with
   | some o=>o.d
   | none=>none) with
  | some t=>(match boolAt s t with
   | some c=>c == b
   | none=>false)
  | none=>false)
def W2ops (P:Program) (rs:List WO):List WO->List Bool->(Nat->AV)->((Nat->AV)->Prop)->Prop
 | [],_,s,K=>K s
 | o::os,wl,s,K=>if want2 rs wl s o then ∃b v,o.cb s=some b/\(o.eff b).rel P s v/\W2ops P rs os (wl++[true]) (upds s (o.ds.zip v)) K
  else W2ops P rs os (wl++[false]) s K
def W2 (P:Program):WC->(Nat->AV)->(Ex->(Nat->AV)->Prop)->Prop
 | .skip,s,Q=>Q .normal s
 | .rg rs,s,Q=>W2ops P rs rs [] s (Q .normal)
 | .seq a b,s,Q=>W2 P a s (thenX (fun s=>W2 P b s Q) Q)
 | .cond X a b,s,Q=>∃c,X.get s=some (.bool c)/\if c then W2 P a s Q else W2 P b s Q
 | .block id b,s,Q=>W2 P b s (blockX id Q)
 | .loop b,s,Q=>∃n,rnd (W2 P b) Q n s
 | .exit id,s,Q=>Q (.exit id) s
 | .ret,s,Q=>Q .ret s
theorem want2_eq (rs:List OpR) (wl:List Bool) (s:Nat->AV) (o:OpR):want2 (rs.map OpR.wo) wl s o.wo=wantR rs wl s o:=by
 unfold want2 wantR;show (match o.gd with|none=>true|some (j,b)=>_)=_;cases o.gd with
 | none=>rfl
 | some p=>
  obtain ⟨j,b⟩:=p;simp only [List.getElem?_map,dOf];cases rs[j]? with
  | none=>rfl
  | some oj=>rfl
theorem W2ops_eq {P:Program} {rs:List OpR}:∀{os:List OpR} {wl:List Bool} {s:Nat->AV} {K:(Nat->AV)->Prop},W2ops P (rs.map OpR.wo) (os.map OpR.wo) wl s K->Wops P rs os wl s K
 | [],_,_,_,h=>h
 | o::os,wl,s,K,h=>by
  simp only [List.map_cons,W2ops,want2_eq] at h;simp only [Wops];split
  ·rename_i hw;rw [if_pos hw] at h;obtain ⟨b,v,h1,h2,h3⟩:=h;exact ⟨b,v,h1,h2,W2ops_eq h3⟩
  ·rename_i hw;rw [if_neg hw] at h;exact W2ops_eq h
theorem rnd_mono {F F':(Nat->AV)->(Ex->(Nat->AV)->Prop)->Prop} (hF:∀s Q Q',(∀e s,Q e s->Q' e s)->F s Q->F' s Q'):∀{n:Nat} {s:Nat->AV} {Q Q':Ex->(Nat->AV)->Prop},(∀e s,Q e s->Q' e s)->rnd F Q n s->rnd F' Q' n s
 | 0,_,_,_,_,h=>h
 | n+1,s,Q,Q',hQ,h=>by
  simp only [rnd] at h ⊢;refine hF _ _ _ (fun e s h => ?_) h;cases e with
  | normal=>exact rnd_mono hF hQ h
  | exit id=>exact hQ _ _ h
  | ret=>exact hQ _ _ h
theorem W2ops_mono {P:Program} {rs:List WO}:∀{os:List WO} {wl:List Bool} {s:Nat->AV} {K K':(Nat->AV)->Prop},(∀s,K s->K' s)->W2ops P rs os wl s K->W2ops P rs os wl s K'
 | [],_,_,_,_,hK,h=>hK _ h
 | o::os,wl,s,K,K',hK,h=>by
  simp only [W2ops] at h ⊢;split
  ·rename_i hw;rw [if_pos hw] at h;obtain ⟨b,v,h1,h2,h3⟩:=h;exact ⟨b,v,h1,h2,W2ops_mono hK h3⟩
  ·rename_i hw;rw [if_neg hw] at h;exact W2ops_mono hK h
theorem W2_mono {P:Program}:∀{c:WC} {s:Nat->AV} {Q Q':Ex->(Nat->AV)->Prop},(∀e s,Q e s->Q' e s)->W2 P c s Q->W2 P c s Q'
 | .skip,s,_,_,hQ,h=>hQ _ _ h
 | .rg rs,s,_,_,hQ,h=>W2ops_mono (fun s=>hQ _ s) h
 | .seq a b,s,_,_,hQ,h=>by
  simp only [W2] at h ⊢;refine W2_mono (fun e s h => ?_) h;cases e with
  | normal=>exact W2_mono hQ h
  | exit id=>exact hQ _ _ h
  | ret=>exact hQ _ _ h
 | .cond X a b,s,_,_,hQ,h=>by
  simp only [W2] at h ⊢;obtain ⟨c,h1,h2⟩:=h;refine ⟨c,h1,?_⟩;cases c
  ·exact W2_mono hQ h2
  ·exact W2_mono hQ h2
 | .block id b,s,_,_,hQ,h=>by
  simp only [W2] at h ⊢;refine W2_mono (fun e s h => ?_) h;cases e with
  | normal=>exact hQ _ _ h
  | exit id'=>
   simp only [blockX] at h ⊢;split
   ·rename_i hi;rw [if_pos hi] at h;exact hQ _ _ h
   ·rename_i hi;rw [if_neg hi] at h;exact hQ _ _ h
  | ret=>exact hQ _ _ h
 | .loop b,s,_,_,hQ,h=>by
  simp only [W2] at h ⊢;obtain ⟨n,h⟩:=h;exact ⟨n,rnd_mono (F:=W2 P b) (F':=W2 P b) (fun s Q Q' hQ h=>W2_mono hQ h) hQ h⟩
 | .exit id,s,_,_,hQ,h=>hQ _ _ h
 | .ret,s,_,_,hQ,h=>hQ _ _ h
theorem W_mono {P:Program}:∀{c:CC} {s:Nat->AV} {Q:Ex->(Nat->AV)->Prop},W2 P c.wc s Q->W P c s Q
 | .skip,s,_,h=>h
 | .rg rs,s,_,h=>W2ops_eq h
 | .seq a b,s,_,h=>by
  simp only [W];refine W_mono (c:=a) (W2_mono (fun e s h => ?_) h);cases e with
  | normal=>exact W_mono (c:=b) h
  | exit id=>exact h
  | ret=>exact h
 | .cond X a b,s,_,h=>by
  simp only [W];obtain ⟨c,h1,h2⟩:=h;refine ⟨c,h1,?_⟩;cases c
  ·exact W_mono (c:=b) h2
  ·exact W_mono (c:=a) h2
 | .block id b,s,_,h=>W_mono (c:=b) h
 | .loop b,s,Q,h=>by
  simp only [W];obtain ⟨n,h⟩:=h;exact ⟨n,rnd_mono (F:=W2 P b.wc) (F':=W P b) (fun s Q Q' hQ h=>W_mono (c:=b) (W2_mono hQ h)) (fun _ _ h=>h) h⟩
 | .exit id,s,_,h=>h
 | .ret,s,_,h=>h
def WC.wrs:WC->List Nat
 | .rg rs=>rs.flatMap (·.ds)
 | .seq a b=>a.wrs++b.wrs
 | .cond _ a b=>a.wrs++b.wrs
 | .block _ b=>b.wrs
 | .loop b=>b.wrs
 | _=>[]
def FrQ (wr:List Nat) (s0:Nat->AV) (Q:Ex->(Nat->AV)->Prop) (e:Ex) (s:Nat->AV):Prop:=Q e s/\∀t,t∉wr->s t=s0 t
theorem upds_zout {s:Nat->AV} {ds:List Nat} {v:List AV} {t:Nat} (h:t∉ds):upds s (ds.zip v) t=s t:=Rgn.upds_out (fun hm=>h (Rgn.zip_mem hm))
theorem W2ops_frame {P:Program} {rs:List WO} {s0:Nat->AV} {wr:List Nat}:∀{os:List WO} {wl:List Bool} {s:Nat->AV} {K:(Nat->AV)->Prop},(∀t,t∉wr->s t=s0 t)->(∀o,o∈os->∀t,t∈o.ds->t∈wr) ->
  W2ops P rs os wl s K->W2ops P rs os wl s (fun s=>K s/\∀t,t∉wr->s t=s0 t)
 | [],_,_,_,hs,_,h=>⟨h,hs⟩
 | o::os,wl,s,K,hs,ho,h=>by
  simp only [W2ops] at h ⊢;split
  ·rename_i hw;rw [if_pos hw] at h;obtain ⟨b,v,h1,h2,h3⟩:=h;refine ⟨b,v,h1,h2,W2ops_frame (fun t ht => ?_) (fun o ho'=>ho o (by simp [ho'])) h3⟩;rw [upds_zout (fun hm=>ht (ho o (by simp) t hm))];exact hs t ht
  ·rename_i hw;rw [if_neg hw] at h;exact W2ops_frame hs (fun o ho'=>ho o (by simp [ho'])) h
theorem W2_frame {P:Program} {s0:Nat->AV} {wr:List Nat}:∀{c:WC} {s:Nat->AV} {Q:Ex->(Nat->AV)->Prop},(∀t,t∉wr->s t=s0 t)->(∀t,t∈c.wrs->t∈wr)->W2 P c s Q->W2 P c s (FrQ wr s0 Q)
 | .skip,s,_,hs,_,h=>⟨h,hs⟩
 | .rg rs,s,_,hs,hw,h=>W2ops_frame hs (fun o ho t ht=>hw t (List.mem_flatMap.2 ⟨o,ho,ht⟩)) h
 | .seq a b,s,Q,hs,hw,h=>by
  simp only [W2] at h ⊢
  refine W2_mono (fun e s h => ?_) (W2_frame hs (fun t ht=>hw t (by simp only [WC.wrs,List.mem_append];exact .inl ht)) h)
  cases e with
  | normal=>exact W2_frame h.2 (fun t ht=>hw t (by simp only [WC.wrs,List.mem_append];exact .inr ht)) h.1
  | exit id=>exact h
  | ret=>exact h
 | .cond X a b,s,Q,hs,hw,h=>by
  simp only [W2] at h ⊢
  obtain ⟨c,h1,h2⟩:=h
  refine ⟨c,h1,?_⟩
  cases c
  ·exact W2_frame hs (fun t ht=>hw t (by simp only [WC.wrs,List.mem_append];exact .inr ht)) h2
  ·exact W2_frame hs (fun t ht=>hw t (by simp only [WC.wrs,List.mem_append];exact .inl ht)) h2
 | .block id b,s,Q,hs,hw,h=>by
  simp only [W2] at h ⊢
  refine W2_mono (fun e s h => ?_) (W2_frame hs hw h)
  cases e with
  | normal=>exact h
  | exit id'=>
   obtain ⟨h,hf⟩:=h
   simp only [blockX] at h ⊢
   split
   ·rename_i hi;rw [if_pos hi] at h;exact ⟨h,hf⟩
   ·rename_i hi;rw [if_neg hi] at h;exact ⟨h,hf⟩
  | ret=>exact h
 | .loop b,s,Q,hs,hw,h=>by
  simp only [W2] at h ⊢
  obtain ⟨n,h⟩:=h
  refine ⟨n,?_⟩
  have key:∀n s,(∀t,t∉wr->s t=s0 t)->rnd (W2 P b) Q n s->rnd (W2 P b) (FrQ wr s0 Q) n s:=by
   intro n;induction n with
   | zero=>intro s _ h;exact h
   | succ n ih=>
    intro s hs h;simp only [rnd] at h ⊢;refine W2_mono (fun e s h => ?_) (W2_frame hs hw h);cases e with
    | normal=>exact ih _ h.2 h.1
    | exit id=>exact h
    | ret=>exact h
  exact key n s hs h
 | .exit id,s,_,hs,_,h=>⟨h,hs⟩
 | .ret,s,_,hs,_,h=>⟨h,hs⟩
end Go.Fw
namespace Go.Fw
def denP (p:PK):Type:=match p.al with
 | false=>denL p.cs
 | true=>denL p.cs × List Nat
def denPK:List PK->Type
 | []=>Unit
 | [p]=>denP p
 | p::p'::ps=>denP p × denPK (p'::ps)
def consPK {p:PK}:{ps:List PK}->denP p->denPK ps->denPK (p::ps)
 | [],x,_=>x
 | _::_,x,r=>(x,r)
def packV {B:Type} (p:PK) (y:denL p.cs) (is:List Nat) (k:denP p->Option B):Option B:=
 match p,y,is,k with
 | ⟨_,_,false⟩,y,[],k=>k y
 | ⟨_,_,false⟩,_,_::_,_=>none
 | ⟨_,_,true⟩,y,is,k=>k (y,is)
def packC {B:Type}:(pk:List PK)->TS->(denPK pk->Option B)->Option B
 | [],_,k=>k ()
 | p::ps,s,k=>match s p.t with
  | .v cs x is=>castL cs p.cs x fun y=>packV p y is fun v=>packC ps s fun r=>k (consPK v r)
  | _=>none
def bvP:(p:PK)->denP p->BV
 | ⟨_,cs,false⟩,x=>.v cs x []
 | ⟨_,cs,true⟩,x=>.v cs x.1 x.2
def unp:(pk:List PK)->denPK pk->TS->TS
 | [],_,s=>s
 | [p],x,s=>ups s p.t (bvP p x)
 | p::p'::ps,x,s=>ups (unp (p'::ps) x.2 s) p.t (bvP p x.1)
def inM (dd t:Nat):Bool:=dd.testBit t || Nat.ble 1000000 t
def msk (dd:Nat) (s:TS):TS:=fun t=>bif inM dd t then .n else s t
theorem unp_cons {p:PK} {ps:List PK} (v:denP p) (r:denPK ps) (s:TS):unp (p::ps) (consPK v r) s=ups (unp ps r s) p.t (bvP p v):=by
 cases ps<;>rfl
theorem Sub.ups1 {s:TS} {sA:Nat->AV} (h:Sub s sA) {d:Nat} {v:BV} (hd:sA d=v.av):Sub (Fw.ups s d v) sA:=by
 intro t;rw [ups_upd];unfold upd;by_cases ht:t=d
 ·rw [if_pos ht,ht];exact .inr hd
 ·rw [if_neg ht];exact h t
theorem packC_ok {B:Type} {a:B} {s:TS} {sA:Nat->AV} (hs:Sub s sA):∀{pk:List PK} {k:denPK pk->Option B},packC pk s k=some a->∃x,k x=some a/\∀base,Sub base sA->Sub (unp pk x base) sA
 | [],k,h=>⟨(),h,fun _ hb=>hb⟩
 | p::ps,k,h=>by
  simp only [packC] at h
  split at h
  ·rename_i cs x is hp
   have hA:=(hs p.t).resolve_left (by rw [hp];simp)
   rw [hp] at hA
   obtain ⟨y,h1,h2⟩:=castL_ok h
   have h3:∃v,(packC ps s fun r=>k (consPK v r))=some a/\(BV.v cs x is).av=(bvP p v).av:=by
    obtain ⟨t,pcs,al⟩:=p;cases al with
    | true=>
     simp only [packV] at h1;exact ⟨_,h1,by simp only [BV.av,bvP];rw [h2]⟩
    | false=>
     cases is with
     | nil=>
      simp only [packV] at h1;exact ⟨_,h1,by simp only [BV.av,bvP];rw [h2]⟩
     | cons=>simp [packV] at h1
   obtain ⟨v,h4,h5⟩:=h3
   obtain ⟨r,h6,h7⟩:=packC_ok hs h4
   refine ⟨_,h6,fun base hb => ?_⟩
   rw [unp_cons]
   exact (h7 base hb).ups1 (by rw [hA,h5])
  ·cases h
def it {X B:Type} (F:(X->Option B)->X->Option B):Nat->X->Option B
 | 0,_=>none
 | n+1,x=>F (it F n) x
def BIG:Nat:=18446744073709551616
def loopT {X B:Type} (n:Nat) (F:(X->Option B)->X->Option B) (x:X):Option B:=it F n x
def takeC {B:Type}:List Nat->TS->(TS->Option B)->Option B
 | [],s,k=>k s
 | t::ts,s,k=>match s t with
  | .v cs x _=>takeC ts (ups s t (.v cs x [])) k
  | _=>none
def capC {B:Type} (nu:Nat) (k:List BV->Option B) (vs:List BV):Option B:=bif Nat.ble vs.length nu&&Nat.ble 1 vs.length then k vs else none
def argsC {B:Type} (s:TS):(ps:List (List TY))->List OY->(denLL ps->Option B)->Option B
 | [],[],k=>k ()
 | p::ps,X::Xs,k=>X.c' s fun cs x=>castL cs p x fun y=>argsC s ps Xs fun r=>k (consLL y r)
 | _,_,_=>none
def resBV (rs:RS) (cs:List TY) (r:denL cs):BV:=
 match rs with
 | .u=>.n
 | _=>.v cs r []
def KT.c {B:Type} (s:TS) (sp:TSp) (r:denL sp.rs) (o:denL sp.os) (k:List BV->Option B):KT->Option B
 | .no=>k [resBV sp.sg.res sp.rs r]
 | .mt rt sk off t j=>bif Nat.beq j sp.j then getVc s t fun _ _ is=>getVc s rt fun cs x _=>updT (fun e row k'=>splL e row off sp.os o k') cs x sk is fun z=>k [resBV sp.sg.res sp.rs r,.v cs z []] else none
 | .mp j=>bif Nat.beq j sp.j then k [resBV sp.sg.res sp.rs r,.v sp.os o []] else none
def TO.c {B:Type} (E:TEnv) (s:TS) (k:List BV->Option B) (o:TO):Option B:=
 match o.e with
 | .det nu e=>takeC o.tks s fun s1=>e.c s1 (capC nu k)
 | .call nu K gets kt=>takeC o.tks s fun s1=>match E K with
  | some sp=>argsC s1 sp.ps gets fun xs=>Option.bind (sp.f xs) fun ro=>kt.c s1 sp ro.1 ro.2 (capC nu k)
  | none=>none
 | .pick c X Y=>match s c with
  | .v [.b] x is=>cond x (X.c' (ups s c (.v [.b] true is)) fun y=>k [.v [y.t] y.x []]) (Y.c' (ups s c (.v [.b] false is)) fun y=>k [.v [y.t] y.x []])
  | _=>none
def gdT (all:List TO) (j:Nat):Option Nat:=
 match all[j]? with
 | some o=>o.d
 | none=>none
def rgT {B:Type} (E:TEnv) (all:List TO):List TO->List Bool->TS->(TS->Option B)->Option B
 | [],_,s,k=>k s
 | o::os,wl,s,k=>match o.gd with
  | none=>o.c E s fun vs=>rgT E all os (wl++[true]) (upz s o.ds vs) k
  | some (j,b)=>bif wl.getD j false then
    match gdT all j with
    | some t=>match s t with
     | .v [.b] x is=>cond x
      (bif b then o.c E (ups s t (.v [.b] true is)) fun vs=>rgT E all os (wl++[true]) (upz (ups s t (.v [.b] true is)) o.ds vs) k else rgT E all os (wl++[false]) (ups s t (.v [.b] true is)) k)
      (bif b then rgT E all os (wl++[false]) (ups s t (.v [.b] false is)) k else o.c E (ups s t (.v [.b] false is)) fun vs=>rgT E all os (wl++[true]) (upz (ups s t (.v [.b] false is)) o.ds vs) k)
     | _=>none
    | none=>none
   else rgT E all os (wl++[false]) s k
def TC.run {B:Type} (n:Nat) (E:TEnv):TC->TS->(Ex->TS->Option B)->Option B
 | .skip,s,k=>k .normal s
 | .rg ops,s,k=>rgT E ops ops [] s (k .normal)
 | .seq a b,s,k=>a.run n E s fun e s'=>match e with
  | .normal=>b.run n E s' k
  | .exit id=>k (.exit id) s'
  | .ret=>k .ret s'
 | .cond X a b,s,k=>match X with
  | .t t=>match s t with
   | .v [.b] x is=>_root_.cond x (a.run n E (ups s t (.v [.b] true is)) k) (b.run n E (ups s t (.v [.b] false is)) k)
   | _=>none
  | .c v=>match v with
   | .bool x=>_root_.cond x (a.run n E s k) (b.run n E s k)
   | _=>none
 | .block id b,s,k=>b.run n E s fun e s'=>match e with
  | .normal=>k .normal s'
  | .exit id'=>bif Nat.beq id' id then k .normal s' else k (.exit id') s'
  | .ret=>k .ret s'
 | .loop pk dd b,s,k=>packC pk s fun x=>loopT n (fun self x=>b.run n E (unp pk x (msk dd s)) fun e s'=>match e with
  | .normal=>packC pk s' self
  | .exit id=>k (.exit id) s'
  | .ret=>k .ret s') x
 | .exit id,s,k=>k (.exit id) s
 | .ret,s,k=>k .ret s
 | .join pk dd none a,s,k=>Option.bind (a.run n E s fun e s'=>match e with
  | .normal=>packC pk s' some
  | _=>none) fun x=>k .normal (unp pk x (msk dd s))
 | .join pk dd (some pr) a,s,k=>Option.bind (a.run n E s fun e s'=>match e with
  | .normal=>packC pk s' fun x=>some (Sum.inl x)
  | .ret=>packC pr s' fun x=>some (Sum.inr x)
  | _=>none) fun y=>match y with
  | .inl x=>k .normal (unp pk x (msk dd s))
  | .inr x=>k .ret (unp pr x (msk dd s))
def pres:List Nat->Eff->Eff
 | [],E=>E
 | t::ts,E=>(pres ts E).pre (takeS t)
def TO.weff (E:TEnv) (o:TO) (b:Bool):Eff:=
 match o.e with
 | .det nu e=>pres o.tks ((Eff.det e.f).cap nu)
 | .call nu K gets kt=>match E K with
  | some sp=>pres o.tks ((Eff.call K sp.sg (fun s=>getsL s (gets.map OY.f)) fun res outs s=>kt.sk.post sp.sg.res res outs s).cap nu)
  | none=>.det fun _=>none
 | .pick c X Y=>(pickS 0 c X Y b).eff
def TO.wcb (o:TO):(Nat->AV)->Option Bool:=
 match o.e with
 | .pick c _ _=>fun s=>boolAt s c
 | _=>fun _=>some true
def TO.wo (E:TEnv) (o:TO):WO:=⟨o.weff E,o.wcb,o.ds,o.d,o.gd⟩
def TC.wc (E:TEnv):TC->WC
 | .skip=>.skip
 | .rg ops=>.rg (ops.map (TO.wo E))
 | .seq a b=>.seq (a.wc E) (b.wc E)
 | .cond X a b=>.cond X (a.wc E) (b.wc E)
 | .block id b=>.block id (b.wc E)
 | .loop _ _ b=>.loop (b.wc E)
 | .exit id=>.exit id
 | .ret=>.ret
 | .join _ _ _ a=>a.wc E
def TC.wrs:TC->List Nat
 | .rg ops=>ops.flatMap (·.ds)
 | .seq a b=>a.wrs++b.wrs
 | .cond _ a b=>a.wrs++b.wrs
 | .block _ b=>b.wrs
 | .loop _ _ b=>b.wrs
 | .join _ _ _ a=>a.wrs
 | _=>[]
def TC.okd:TC->Bool
 | .seq a b=>a.okd&&b.okd
 | .cond _ a b=>a.okd&&b.okd
 | .block _ b=>b.okd
 | .loop _ dd b=>b.okd&&b.wrs.all fun t=>inM dd t
 | .join _ dd _ a=>a.okd&&a.wrs.all fun t=>inM dd t
 | _=>true
theorem wc_wrs (E:TEnv):∀c:TC,(c.wc E).wrs=c.wrs
 | .skip=>rfl
 | .rg ops=>by simp only [TC.wc,WC.wrs,TC.wrs,List.flatMap_map];rfl
 | .seq a b=>by simp only [TC.wc,WC.wrs,TC.wrs,wc_wrs E a,wc_wrs E b]
 | .cond X a b=>by simp only [TC.wc,WC.wrs,TC.wrs,wc_wrs E a,wc_wrs E b]
 | .block id b=>wc_wrs E b
 | .loop _ _ b=>wc_wrs E b
 | .exit id=>rfl
 | .ret=>rfl
 | .join _ _ _ a=>wc_wrs E a
end Go.Fw
namespace Go.Fw
section
variable {B:Type} {s:TS} {sA:Nat->AV} {a:B} {P:Program} {E:TEnv}
theorem capC_ok {nu:Nat} {k:List BV->Option B} {vs:List BV} (h:capC nu k vs=some a):vs.length<=nu/\0<vs.length/\k vs=some a:=by
 unfold capC at h;cases hb:(Nat.ble vs.length nu&&Nat.ble 1 vs.length) with
 | true=>
  rw [hb] at h;simp only [Bool.and_eq_true] at hb;exact ⟨Nat.le_of_ble_eq_true hb.1,Nat.le_of_ble_eq_true hb.2,h⟩
 | false=>rw [hb] at h;cases h
theorem argsC_ok (hs:Sub s sA):∀{ps:List (List TY)} {Xs:List OY} {k:denLL ps->Option B},argsC s ps Xs k=some a->∃xs,getsL sA (Xs.map OY.f)=some (encLL ps xs)/\k xs=some a
 | [],[],k,h=>⟨(),rfl,h⟩
 | [],_::_,_,h=>by simp [argsC] at h
 | _::_,[],_,h=>by simp [argsC] at h
 | p::ps,X::Xs,k,h=>by
  simp only [argsC] at h;obtain ⟨cs,x,h1,h2⟩:=OY_ok hs h;obtain ⟨y,h3,h4⟩:=castL_ok h2;obtain ⟨xs,h5,h6⟩:=argsC_ok hs h3;refine ⟨consLL y xs,?_,h6⟩;simp only [List.map_cons,getsL,h1,h5];rw [encLL_cons,h4]
theorem av_v (cs:List TY) (x:denL cs) (is:List Nat):(BV.v cs x is).av = .v (encL cs x) is:=rfl
theorem resBV_av (rs:RS) (cs:List TY) (r:denL cs):(resBV rs cs r).av=resAV (encL cs r) rs:=by
 cases rs<;>rfl
theorem outs_at (sp:TSp) (o:denL sp.os) {j:Nat} (h:Nat.beq j sp.j=true):(sp.outs o)[j]?=some (encL sp.os o):=by
 have:=Nat.eq_of_beq_eq_true h;subst this;simp [TSp.outs]
theorem KTc_ok (hs:Sub s sA) {sp:TSp} {r:denL sp.rs} {o:denL sp.os} {kt:KT} {k:List BV->Option B} (h:kt.c s sp r o k=some a) :
  ∃vs,kt.sk.post sp.sg.res (encL sp.rs r) (sp.outs o) sA=some (vs.map BV.av)/\k vs=some a:=by
 cases kt with
 | no=>
  refine ⟨_,?_,h⟩;simp only [KT.sk,SK.post,List.map_cons,List.map_nil,resBV_av]
 | mt rt sk off t j=>
  simp only [KT.c] at h;rcases cond_some h with ⟨h1,h2⟩|⟨_,h2⟩
  ·obtain ⟨cs0,x0,is,h3,h4⟩:=getVc_ok hs h2;obtain ⟨cs,x,is',h5,h6⟩:=getVc_ok hs h4;obtain ⟨row,z,h7,h8,h9⟩:=updT_ok (g:=fun row=>splice row off (encL sp.os o)) (fun e y' k' hk=>by
    obtain ⟨z,g1,g2⟩:=splL_ok hk
    exact ⟨z,g1,g2⟩) h6
   refine ⟨_,?_,h8⟩;simp only [KT.sk,SK.post,getI,h3,getA_of h5,outs_at sp o h1,h7,List.map_cons,List.map_nil,resBV_av,av_v,h9]
  ·cases h2
 | mp j=>
  simp only [KT.c] at h;rcases cond_some h with ⟨h1,h2⟩|⟨_,h2⟩
  ·refine ⟨_,?_,h2⟩;simp only [KT.sk,SK.post,outs_at sp o h1,List.map_cons,List.map_nil,resBV_av,av_v]
  ·cases h2
theorem pres_take {ts:List Nat} {k:TS->Option B}:∀{s:TS} {sA:Nat->AV},Sub s sA->takeC ts s k=some a->∃s1 sA1,Sub s1 sA1/\k s1=some a/\∀E0 v,Eff.rel P E0 sA1 v->(pres ts E0).rel P sA v:=by
 induction ts with
 | nil=>intro s sA hs h;exact ⟨s,sA,hs,h,fun _ _ h=>h⟩
 | cons t ts ih=>
  intro s sA hs h;simp only [takeC] at h;split at h
  ·rename_i cs x is ht;have hA:=(hs t).resolve_left (by rw [ht];simp);rw [ht] at hA;have hs1:=hs.ups t (.v cs x []);obtain ⟨s1,sA1,h1,h2,h3⟩:=ih hs1 h;refine ⟨s1,sA1,h1,h2,fun E0 v hr => ?_⟩;have h4:=h3 E0 v hr;have htk:takeS t sA=some (upd sA t (BV.v cs x []).av):=by
    simp only [takeS,getA,hA,BV.av]
   simp only [pres];generalize pres ts E0=E1 at h4;cases E1 with
   | det f=>simp only [Eff.pre,Eff.rel,htk] at h4 ⊢;exact h4
   | call K sg args post=>
    simp only [Eff.pre,Eff.rel,htk] at h4 ⊢;exact h4
  ·cases h
theorem boolAt_of {t:Nat} {x:Bool} {is:List Nat} (h:sA t=(BV.v [.b] x is).av):boolAt sA t=some x:=by
 simp only [boolAt,h,BV.av,encL,enc]
theorem TOc_ok (hE:∀K sp,E K=some sp->sp.Ok P K) (hs:Sub s sA) {o:TO} {k:List BV->Option B} (h:o.c E s k=some a) :
  ∃b vs,o.wcb sA=some b/\(o.weff E b).rel P sA (vs.map BV.av)/\k vs=some a:=by
 unfold TO.c at h;split at h
 ·rename_i nu e he;obtain ⟨s1,sA1,h1,h2,h3⟩:=pres_take (P:=P) hs h;obtain ⟨vs,h4,h5⟩:=EDc_ok h1 h2;obtain ⟨h6,h7,h8⟩:=capC_ok h5;refine ⟨true,vs,by unfold TO.wcb;rw [he],?_,h8⟩;unfold TO.weff;rw [he];refine h3 _ _ ?_;simp only [Eff.cap,Eff.rel,h4,List.length_map];rw [if_pos ⟨h6,h7⟩]
 ·rename_i nu K gets kt he;obtain ⟨s1,sA1,h1,h2,h3⟩:=pres_take (P:=P) hs h;split at h2
  ·rename_i sp hsp;obtain ⟨xs,h4,h5⟩:=argsC_ok h1 h2;simp only [Option.bind_eq_some_iff] at h5;obtain ⟨ro,h6,h7⟩:=h5;obtain ⟨vs,h8,h9⟩:=KTc_ok h1 h7;obtain ⟨g6,g7,g8⟩:=capC_ok h9;refine ⟨true,vs,by unfold TO.wcb;rw [he],?_,g8⟩;unfold TO.weff;rw [he];simp only [hsp];refine h3 _ _ ?_;simp only [Eff.cap,Eff.rel];refine ⟨_,_,_,h4,hE K sp hsp xs ro.1 ro.2 h6,?_⟩;simp only [h8,List.length_map];rw [if_pos ⟨g6,g7⟩]
  ·cases h2
 ·rename_i c X Y he;split at h
  ·rename_i x is hc;have hA:=(hs c).resolve_left (by rw [hc];simp);rw [hc] at hA;have hb:=boolAt_of hA;cases x with
   | true=>
    have hs1:Sub (ups s c (.v [.b] true is)) sA:=hs.ups1 hA;simp only [cond_true] at h;obtain ⟨y,v,h1,h2,h3⟩:=DXc_ok hs1 h;refine ⟨true,_,by unfold TO.wcb;rw [he];exact hb,?_,h3⟩;unfold TO.weff;rw [he];simp only [pickS,Stp.set,Eff.rel,hb,if_true,h1,List.map_cons,List.map_nil,BV.av];rw [show encL [y.t] y.x=[enc y.t y.x] from by simp only [encL],h2.1]
   | false=>
    have hs1:Sub (ups s c (.v [.b] false is)) sA:=hs.ups1 hA;simp only [cond_false] at h;obtain ⟨y,v,h1,h2,h3⟩:=DXc_ok hs1 h;refine ⟨false,_,by unfold TO.wcb;rw [he];exact hb,?_,h3⟩;unfold TO.weff;rw [he];simp only [pickS,Stp.set,Eff.rel,hb,if_true,Bool.false_eq_true,if_false,h1,List.map_cons,List.map_nil,BV.av];rw [show encL [y.t] y.x=[enc y.t y.x] from by simp only [encL],h2.1]
  ·cases h
theorem rgT_ok (hE:∀K sp,E K=some sp->sp.Ok P K) {all:List TO} {k:TS->Option B} {Q:(Nat->AV)->Prop} (hk:∀s sA,Sub s sA->k s=some a->Q sA):∀{os:List TO} {wl:List Bool} {s:TS} {sA:Nat->AV},Sub s sA ->
  rgT E all os wl s k=some a->W2ops P (all.map (TO.wo E)) (os.map (TO.wo E)) wl sA Q
 | [],wl,s,sA,hs,h=>hk _ _ hs h
 | o::os,wl,s,sA,hs,h=>by
  have exec:∀s,Sub s sA->(o.c E s fun vs=>rgT E all os (wl++[true]) (upz s o.ds vs) k)=some a->∃b v,(o.wo E).cb sA=some b/\((o.wo E).eff b).rel P sA v/\W2ops P (all.map (TO.wo E)) (os.map (TO.wo E)) (wl++[true]) (upds sA ((o.wo E).ds.zip v)) Q:=by
   intro s hs h;obtain ⟨b,vs,h1,h2,h3⟩:=TOc_ok hE hs h;exact ⟨b,_,h1,h2,rgT_ok hE hk (hs.upz o.ds vs) h3⟩
  have skip:∀s,Sub s sA->rgT E all os (wl++[false]) s k=some a->W2ops P (all.map (TO.wo E)) (os.map (TO.wo E)) (wl++[false]) sA Q:=fun s hs h=>rgT_ok hE hk hs h
  simp only [List.map_cons,W2ops]
  simp only [rgT] at h
  cases hg:o.gd with
  | none=>
   rw [hg] at h
   have hw:want2 (all.map (TO.wo E)) wl sA (o.wo E)=true:=by unfold want2;show (match o.gd with|none=>true|some (j,b)=>_)=_;rw [hg]
   rw [if_pos hw]
   exact exec s hs h
  | some p=>
   obtain ⟨j,b⟩:=p
   rw [hg] at h
   simp only at h
   have hw0:want2 (all.map (TO.wo E)) wl sA (o.wo E)=(wl.getD j false&&(match gdT all j with
   | some t=>(match boolAt sA t with
    | some c=>c == b
    | none=>false)
   | none=>false)):=by
    unfold want2
    show (match o.gd with|none=>true|some (j,b)=>_)=_
    rw [hg]
    simp only [List.getElem?_map,gdT]
    cases all[j]? with
    | none=>rfl
    | some oj=>rfl
   rcases cond_some h with ⟨h1,h2⟩|⟨h1,h2⟩
   ·split at h2
    ·rename_i t ht
     split at h2
     ·rename_i x is hx
      have hA:=(hs t).resolve_left (by rw [hx];simp)
      rw [hx] at hA
      have hb:=boolAt_of hA
      have hw1:want2 (all.map (TO.wo E)) wl sA (o.wo E)=((show Bool from x) == b):=by
       rw [hw0,h1,ht]
       show (true&&(match boolAt sA t with|some c=>c == b|none=>false))=_
       rw [hb];rfl
      rw [hw1]
      cases x with
      | true=>
       have hs1:Sub (ups s t (.v [.b] true is)) sA:=hs.ups1 hA
       cases b with
       | true=>exact (if_pos rfl).symm▸exec _ hs1 h2
       | false=>exact skip _ hs1 h2
      | false=>
       have hs1:Sub (ups s t (.v [.b] false is)) sA:=hs.ups1 hA
       cases b with
       | true=>exact skip _ hs1 h2
       | false=>exact (if_pos rfl).symm▸exec _ hs1 h2
     ·cases h2
    ·cases h2
   ·have hw1:want2 (all.map (TO.wo E)) wl sA (o.wo E)=false:=by rw [hw0,h1];rfl
    rw [hw1]
    exact skip _ hs h2
end
theorem tc_ok {P:Program} {N0:Nat} {E:TEnv} (hE:∀K sp,E K=some sp->sp.Ok P K):∀{c:TC} {B:Type} {a:B} {s:TS} {sA:Nat->AV} {k:Ex->TS->Option B} {Q:Ex->(Nat->AV)->Prop},c.okd=true->Sub s sA->c.run N0 E s k=some a ->
  (∀e s sA,Sub s sA->k e s=some a->Q e sA)->W2 P (c.wc E) sA Q
 | .skip,B,a,s,sA,k,Q,_,hs,h,hk=>hk _ _ _ hs h
 | .rg ops,B,a,s,sA,k,Q,_,hs,h,hk=>rgT_ok hE (fun s sA hs h=>hk _ _ _ hs h) hs h
 | .seq x y,B,a,s,sA,k,Q,hd,hs,h,hk=>by
  simp only [TC.okd,Bool.and_eq_true] at hd
  simp only [TC.run] at h
  simp only [TC.wc,W2]
  refine tc_ok hE hd.1 hs h fun e s' sA' hs' h' => ?_
  cases e with
  | normal=>exact tc_ok hE hd.2 hs' h' hk
  | exit id=>exact hk _ _ _ hs' h'
  | ret=>exact hk _ _ _ hs' h'
 | .cond X x y,B,a,s,sA,k,Q,hd,hs,h,hk=>by
  simp only [TC.okd,Bool.and_eq_true] at hd
  simp only [TC.wc,W2]
  cases X with
  | t t=>
   simp only [TC.run] at h
   split at h
   ·rename_i b is ht
    have hA:=(hs t).resolve_left (by rw [ht];simp)
    rw [ht] at hA
    refine ⟨b,by simp only [DX.get,hA,BV.av,encL,enc],?_⟩
    cases b with
    | true=>exact tc_ok hE hd.1 (hs.ups1 hA) h hk
    | false=>exact tc_ok hE hd.2 (hs.ups1 hA) h hk
   ·cases h
  | c v=>
   simp only [TC.run] at h
   split at h
   ·rename_i b
    refine ⟨b,rfl,?_⟩
    cases b with
    | true=>exact tc_ok hE hd.1 hs h hk
    | false=>exact tc_ok hE hd.2 hs h hk
   ·cases h
 | .block id x,B,a,s,sA,k,Q,hd,hs,h,hk=>by
  simp only [TC.okd] at hd
  simp only [TC.run] at h
  simp only [TC.wc,W2]
  refine tc_ok hE hd hs h fun e s' sA' hs' h' => ?_
  cases e with
  | normal=>exact hk _ _ _ hs' h'
  | exit id'=>
   simp only at h'
   simp only [blockX]
   rcases cond_some h' with ⟨h1,h2⟩|⟨h1,h2⟩
   ·rw [if_pos (Nat.eq_of_beq_eq_true h1)];exact hk _ _ _ hs' h2
   ·rw [if_neg (fun he=>by subst he;simp at h1)];exact hk _ _ _ hs' h2
  | ret=>exact hk _ _ _ hs' h'
 | .loop pk dd x,B,a,s,sA,k,Q,hd,hs,h,hk=>by
  simp only [TC.okd,Bool.and_eq_true,List.all_eq_true] at hd
  simp only [TC.run] at h
  simp only [TC.wc,W2]
  obtain ⟨x0,h1,h2⟩:=packC_ok hs h
  refine ⟨N0,?_⟩
  have base:∀sA':Nat->AV,(∀t,t∉x.wrs->sA' t=sA t)->Sub (msk dd s) sA':=by
   intro sA' hf t;unfold msk;cases ht:inM dd t with
   | true=>exact .inl rfl
   | false=>
    rcases hs t with h3|h3
    ·exact .inl h3
    ·right;rw [hf t (fun hm=>by rw [hd.2 t hm] at ht;cases ht),h3];rfl
  have key:∀n x0 sA',(∀t,t∉x.wrs->sA' t=sA t)->Sub (unp pk x0 (msk dd s)) sA'->it (fun self y=>x.run N0 E (unp pk y (msk dd s)) fun e s'=>match e with
    | .normal=>packC pk s' self
    | .exit id=>k (.exit id) s'
    | .ret=>k .ret s') n x0=some a->rnd (W2 P (x.wc E)) Q n sA':=by
   intro n
   induction n with
   | zero=>intro x0 sA' _ _ h;simp [it] at h
   | succ n ih=>
    intro x0 sA' hf hs' h
    simp only [it] at h
    simp only [rnd]
    have:=tc_ok hE (Q:=fun e sB=>(∀t,t∉x.wrs->sB t=sA t)->thenX (rnd (W2 P (x.wc E)) Q n) Q e sB) hd.1 hs' h fun e s'' sB hs'' h' hfb => ?_
    ·refine W2_mono (fun e sB hB => ?_) (W2_frame (s0:=sA) (wr:=x.wrs) hf (fun t ht=>by rwa [wc_wrs] at ht) this)
     exact hB.1 hB.2
    ·cases e with
     | normal=>
      obtain ⟨y,h3,h4⟩:=packC_ok hs'' h'
      exact ih y sB hfb (h4 _ (base sB hfb)) h3
     | exit id=>exact hk _ _ _ hs'' h'
     | ret=>exact hk _ _ _ hs'' h'
  exact key N0 x0 sA (fun _ _=>rfl) (h2 _ (base sA fun _ _=>rfl)) h1
 | .exit id,B,a,s,sA,k,Q,_,hs,h,hk=>hk _ _ _ hs h
 | .ret,B,a,s,sA,k,Q,_,hs,h,hk=>hk _ _ _ hs h
 | .join pk dd pr x,B,a,s,sA,k,Q,hd,hs,h,hk=>by
  simp only [TC.okd,Bool.and_eq_true,List.all_eq_true] at hd
  simp only [TC.wc]
  have base:∀sA':Nat->AV,(∀t,t∉x.wrs->sA' t=sA t)->Sub (msk dd s) sA':=by
   intro sA' hf t
   unfold msk
   cases ht:inM dd t with
   | true=>exact .inl rfl
   | false=>
    rcases hs t with h3|h3
    ·exact .inl h3
    ·right
     rw [hf t (fun hm=>by rw [hd.2 t hm] at ht;cases ht),h3];rfl
  have fr:∀{Q':Ex->(Nat->AV)->Prop},W2 P (x.wc E) sA Q'->W2 P (x.wc E) sA (FrQ x.wrs sA Q'):=fun hw=>W2_frame (fun _ _=>rfl) (fun t ht=>by rwa [wc_wrs] at ht) hw
  cases pr with
  | none=>
   simp only [TC.run,Option.bind_eq_some_iff] at h
   obtain ⟨x0,h1,h2⟩:=h
   have:=tc_ok hE (Q:=fun e sB=>(∀t,t∉x.wrs->sB t=sA t)->Q e sB) hd.1 hs h1 fun e s'' sB hs'' h' hfb => ?_
   ·exact W2_mono (fun e sB hB=>hB.1 hB.2) (fr this)
   ·cases e with
    | normal=>
     obtain ⟨y,h3,h4⟩:=packC_ok hs'' h'
     cases h3
     exact hk _ _ _ (h4 _ (base sB hfb)) h2
    | exit id=>cases h'
    | ret=>cases h'
  | some pr=>
   simp only [TC.run,Option.bind_eq_some_iff] at h
   obtain ⟨x0,h1,h2⟩:=h
   have:=tc_ok hE (Q:=fun e sB=>(∀t,t∉x.wrs->sB t=sA t)->Q e sB) hd.1 hs h1 fun e s'' sB hs'' h' hfb => ?_
   ·exact W2_mono (fun e sB hB=>hB.1 hB.2) (fr this)
   ·cases e with
    | normal=>
     obtain ⟨y,h3,h4⟩:=packC_ok hs'' h'
     cases h3
     exact hk _ _ _ (h4 _ (base sB hfb)) h2
    | exit id=>cases h'
    | ret=>
     obtain ⟨y,h3,h4⟩:=packC_ok hs'' h'
     cases h3
     exact hk _ _ _ (h4 _ (base sB hfb)) h2
end Go.Fw
namespace Go.Fw
def inT:(ps:List (List TY))->denLL ps->Nat->TS
 | [],_,_=>fun _=>.n
 | [p],x,i=>ups (fun _=>.n) i (.v p x [])
 | p::p'::ps,x,i=>ups (inT (p'::ps) x.2 (i+1)) i (.v p x.1 [])
def mixL:(cs:List TY)->denL cs->denL cs->denL cs
 | [],_,_=>()
 | c::cs,x,y=>consL (match c,headL x,headL y with
  | .sl _,_,r=>r
  | .b,v,_=>v
  | .i _,v,_=>v
  | .s,v,_=>v) (mixL cs (tailL x) (tailL y))
theorem mixL_enc:∀{cs:List TY} {x y:denL cs},encL cs (mixL cs x y)=mixA (encL cs x) (encL cs y)
 | [],_,_=>rfl
 | c::cs,x,y=>by
  simp only [mixL];rw [encL_consL,encL_cons x,encL_cons y];cases c with
  | sl e=>
   rw [enc_sl (headL x)];simp only [mixA];rw [mixL_enc]
  | _=>
   simp only [enc,mixA];rw [mixL_enc]
def appL:{cs cs':List TY}->denL cs->denL cs'->denL (cs++cs')
 | [],_,_,y=>y
 | _::_,_,x,y=>consL (headL x) (appL (tailL x) y)
theorem appL_enc:∀{cs cs':List TY} {x:denL cs} {y:denL cs'},encL (cs++cs') (appL x y)=encL cs x++encL cs' y
 | [],_,_,_=>rfl
 | c::cs,cs',x,y=>by
  rw [encL_cons x];refine (encL_consL (headL x) (appL (tailL x) y)).trans ?_;rw [appL_enc];rfl
def regC {B:Type} (s:TS):List Nat->((cs:List TY)->denL cs->Option B)->Option B
 | [],k=>k [] ()
 | [t],k=>getVc s t fun cs x _=>k cs x
 | t::t'::ts,k=>getVc s t fun cs x _=>regC s (t'::ts) fun cs' y=>k (cs++cs') (appL x y)
theorem regC_ok {B:Type} {a:B} {s:TS} {sA:Nat->AV} (hs:Sub s sA):∀{ts:List Nat} {k:(cs:List TY)->denL cs->Option B},regC s ts k=some a->∃cs x,getRegs sA ts=some (encL cs x)/\k cs x=some a
 | [],k,h=>⟨[],(),rfl,h⟩
 | [t],k,h=>by
  simp only [regC] at h;obtain ⟨cs,x,is,h1,h2⟩:=getVc_ok hs h;exact ⟨cs,x,by simp only [getRegs,getA_of h1,List.append_nil],h2⟩
 | t::t'::ts,k,h=>by
  simp only [regC] at h;obtain ⟨cs,x,is,h1,h2⟩:=getVc_ok hs h;obtain ⟨cs',y,h3,h4⟩:=regC_ok hs h2;refine ⟨cs++cs',appL x y,?_,h4⟩;rw [appL_enc];simp only [getRegs,getA_of h1] at h3 ⊢;rw [h3]
def nthC {B:Type}:(ps:List (List TY))->denLL ps->Nat->((cs:List TY)->denL cs->Option B)->Option B
 | [],_,_,_=>none
 | [p],x,0,k=>k p x
 | [_],_,_+1,_=>none
 | p::_::_,x,0,k=>k p x.1
 | _::p'::ps,x,n+1,k=>nthC (p'::ps) x.2 n k
theorem nthC_ok {B:Type} {a:B}:∀{ps:List (List TY)} {x:denLL ps} {n:Nat} {k:(cs:List TY)->denL cs->Option B},nthC ps x n k=some a->∃cs y,(encLL ps x)[n]?=some (encL cs y)/\k cs y=some a
 | [],_,_,_,h=>by simp [nthC] at h
 | [p],x,0,k,h=>⟨p,x,rfl,h⟩
 | [_],_,_+1,_,h=>by simp [nthC] at h
 | p::_::_,x,0,k,h=>⟨p,x.1,rfl,h⟩
 | p::p'::ps,x,n+1,k,h=>by
  simp only [nthC] at h;obtain ⟨cs,y,h1,h2⟩:=nthC_ok h;exact ⟨cs,y,by simpa [encLL] using h1,h2⟩
def ouC {B:Type} (ps:List (List TY)) (xs:denLL ps) (s:TS) (os:List TY) (k:denL os->Option B):Ou->Option B
 | .no=>castL [] os () k
 | .mp j=>getVc s j fun cs x _=>castL cs os x k
 | .mt j u off=>getVc s u fun cs x _=>subL cs x off os.length fun cs' y=>castL cs' os y fun y=>nthC ps xs j fun cs2 z=>castL cs2 os z fun z=>k (mixL os z y)
theorem ouC_ok {B:Type} {a:B} {s:TS} {sA:Nat->AV} (hs:Sub s sA) {ps:List (List TY)} {xs:denLL ps} {os:List TY} {k:denL os->Option B} {ou:Ou} (h:ouC ps xs s os k ou=some a):∃o,getOu (encLL ps xs) sA ou=some (encL os o)/\k o=some a:=by
 cases ou with
 | no=>
  simp only [ouC] at h;obtain ⟨y,h1,h2⟩:=castL_ok h;exact ⟨y,by simp only [getOu,h2];rfl,h1⟩
 | mp j=>
  simp only [ouC] at h;obtain ⟨cs,x,is,h1,h2⟩:=getVc_ok hs h;obtain ⟨y,h3,h4⟩:=castL_ok h2;exact ⟨y,by simp only [getOu,getA_of h1,h4],h3⟩
 | mt j u off=>
  simp only [ouC] at h;obtain ⟨cs,x,is,h1,h2⟩:=getVc_ok hs h;obtain ⟨cs',y,h3,h4⟩:=subL_ok (cs:=cs) (x:=x) (off:=off) (n:=os.length) (k:=fun cs' y=>castL cs' os y fun y=>nthC ps xs j fun cs2 z=>castL cs2 os z fun z=>k (mixL os z y));rw [h3] at h2;obtain ⟨y',h5,h6⟩:=castL_ok h2;obtain ⟨cs2,z,h7,h8⟩:=nthC_ok h5;obtain ⟨z',h9,h10⟩:=castL_ok h8;refine ⟨_,?_,h9⟩;have hl:(encL cs2 z).length=os.length:=by rw [<-h10,encL_len]
  simp only [getOu,getA_of h1,h7,hl];rw [mixL_enc,h6,h10,h4]
theorem inT_sub:∀(ps:List (List TY)) (xs:denLL ps) (i:Nat) (sA:Nat->AV),(∀k as,(encLL ps xs)[k]?=some as->sA (i+k) = .v as [])->Sub (inT ps xs i) sA
 | [],_,_,_,_=>fun _=>.inl rfl
 | [p],x,i,sA,h=>by
  refine Sub.ups1 (fun _=>.inl rfl) ?_;exact h 0 _ rfl
 | p::p'::ps,x,i,sA,h=>by
  refine Sub.ups1 (inT_sub (p'::ps) x.2 (i+1) sA fun k as hk => ?_) ?_
  ·rw [show i+1+k=i+(k+1) from by omega];exact h (k+1) as (by simpa [encLL] using hk)
  ·exact h 0 _ rfl
def runFn (n:Nat) (E:TEnv) (c:TC) (ps:List (List TY)) (rs os:List TY) (regs:List Nat) (ou:Ou) (xs:denLL ps):Option (denL rs × denL os):=
 c.run n E (inT ps xs 0) fun e s=>match e with
  | .exit _=>none
  | _=>regC s regs fun cs x=>castL cs rs x fun r=>ouC ps xs s os (fun o=>some (r,o)) ou
def chkW (P:Program) (E:TEnv) (K:FuncId) (sg:Sig) (h:HT) (ou:Ou):Option (WC × List Nat):=(chkFn P (fun K=>(E K).map (·.sg)) K sg h ou).map fun p=>(p.1.wc,p.2)
theorem mkOk {P:Program} {E:TEnv} (hE:∀K sp,E K=some sp->sp.Ok P K) {K:FuncId} {sg:Sig} {h:HT} {ou:Ou} {c:TC} {ps:List (List TY)} {rs os:List TY} {regs:List Nat} {n:Nat} (hc:chkW P E K sg h ou=some (c.wc E,regs)) (hd:c.okd=true) :
  TSp.Ok P K ⟨sg,ps,rs,os,ou.j,runFn n E c ps rs os regs ou⟩:=by
 intro xs r o hf;simp only at hf r o ⊢;simp only [chkW,Option.map_eq_some_iff,Prod.mk.injEq] at hc;obtain ⟨⟨cc,regs'⟩,hck,hwc,hrg⟩:=hc;simp only at hwc hrg;subst hrg;refine fn_ok hck (W_mono (c:=cc) ?_);rw [hwc];refine tc_ok hE hd (inT_sub ps xs 0 _ fun k as hk=>by simp only [Nat.zero_add,inS,hk]) hf fun e s sA hs hk => ?_
 have main:(regC s regs' fun cs x=>castL cs rs x fun r=>ouC ps xs s os (fun o=>some (r,o)) ou)=some (r,o)->getRegs sA regs'=some (encL rs r)/\getOu (encLL ps xs) sA ou=some (encL os o):=by
  intro h;obtain ⟨cs,x,h1,h2⟩:=regC_ok hs h;obtain ⟨y,h3,h4⟩:=castL_ok h2;obtain ⟨o',h5,h6⟩:=ouC_ok hs h3;cases h6;exact ⟨by rw [h1,h4],h5⟩
 cases e with
 | normal=>exact ⟨.inl rfl,main hk⟩
 | exit id=>cases hk
 | ret=>exact ⟨.inr rfl,main hk⟩
def o1 (d:Nat) (e:ED):TO:=⟨false,[],[],.det 1 e,[d],some d,none⟩
def wkC (N dd:Nat):List Nat:=bif Nat.ble (2 ^ N) dd then ((List.range (4*N)).filter fun x=>dd.testBit (N+x)).map (7000000000 + ·) else []
def TC.ht (N:Nat):TC->HT
 | .rg ops=>.rg (ops.map fun o=>⟨o.al,o.tks,o.hd⟩)
 | .seq a b=>.two (a.ht N) (b.ht N)
 | .cond _ a b=>.two (a.ht N) (b.ht N)
 | .block _ b=>.one (b.ht N)
 | .loop pk dd b=>.loop (((List.range N).filter fun t=>dd.testBit t && !pk.any fun p=>Nat.beq p.t t)++wkC N dd) (b.ht N)
 | .join _ _ _ a=>a.ht N
 | _=>.nil
def envOf:List (FuncId × TSp)->TEnv
 | [],_=>none
 | (K,sp)::l,K'=>bif Nat.beq K' K then some sp else envOf l K'
def EnvOk (P:Program) (E:TEnv):Prop:=∀K sp,E K=some sp->sp.Ok P K
theorem env_nil (P:Program):EnvOk P (envOf []):=by intro K sp h;cases h
theorem env_cons {P:Program} {K:FuncId} {sp:TSp} {l:List (FuncId × TSp)} (h:sp.Ok P K) (hl:EnvOk P (envOf l)):EnvOk P (envOf ((K,sp)::l)):=by
 intro K' sp' h';simp only [envOf] at h';cases hb:Nat.beq K' K with
 | true=>
  rw [hb] at h';have:=Nat.eq_of_beq_eq_true hb;subst this;cases h';exact h
 | false=>rw [hb] at h';exact hl K' sp' h'
end Go.Fw
