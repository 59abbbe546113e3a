/- A way of showing what a function computes: the blocks of the heap are owned by the places that hold them; this is a part of it. No conditions. -/
import Derived.Test.YtbdciplhpomakaaGreatG3
set_option linter.unusedVariables false
set_option linter.unusedSimpArgs false
set_option linter.unusedSectionVars false
namespace Go.Fw
def uo (i:Nat):Nat->List CT->List CT->Bool
 | _,[],[]=>true
 | k,_::cu,.d::cs=>uo i (k+1) cu cs
 | k,.sl (.own (some (j,kk))) e::cu,.sl (.own p) e'::cs=>(j == i)&&(kk == k)&&wY [.sl (.own (some (j,kk))) e] [.sl (.own p) e']&&uo i (k+1) cu cs
 | _,_,_=>false
def BL:List A->List A->List A
 | .v x::as,_::rs=>.v x::BL as rs
 | .s _::as,r::rs=>r::BL as rs
 | _,_=>[]
inductive Ou where
 | no
 | mp (j:Nat)
 | mt (j u off:Nat)
def Ou.j:Ou->Nat
 | .no=>0
 | .mp j=>j
 | .mt j _ _=>j
def PM.outs:Option PM->Bool
 | some (.mt _ _)=>true
 | some (.mp _)=>true
 | _=>false
def aar (sg:aI) (i:Nat):Bool:=PM.outs sg.ps[i]?
def agu (sg:aI) (j:Nat):Bool:=(List.range sg.ps.length).all fun i=>(i == j) || !PM.outs sg.ps[i]?
def J9 (sg:aI):Ou->List Ent × List (Nat × Nat)
 | .no=>([],[])
 | .mp j=>match sg.ps[j]? with
  | some (.mp cs)=>([⟨j,0,cs.length,j,0⟩],[(j,j)])
  | _=>([],[])
 | .mt j u off=>match sg.ps[j]? with
  | some (.mt _ cs)=>([⟨u,off,cs.length,j,0⟩],[])
  | _=>([],[])
def okE (es:List Ent) (zs:List (Nat × Nat)) (c c':List CT):Bool:=CT.beqs (CT.unpins (CT.mapSs (fun _=>[]) c)) (CT.unpins c')&&CT.lives c'&&(CT.roSs c).all fun r=>decide (r<FB)&&es.all (fun e=>e.r != r)&&zs.all (fun z=>z.1 != r)
def agv (sg:aI) (D:List TT) (es:List Ent) (zs:List (Nat × Nat)):Ou->Bool
 | .no=>(List.range sg.ps.length).all fun i=>!PM.outs sg.ps[i]?
 | .mp j=>agu sg j&&(match sg.ps[j]?,gt D j with
  | some (.mp cs),.box cr=>okE es zs cr cs&&FF es j 0 cs.length j 0&&(match zs.find? (fun p=>p.1 == j) with
   | some p=>p.2 == j
   | none=>false)
  | _,_=>false)
 | .mt j u off=>agu sg j&&(match sg.ps[j]?,(gt D u).cts with
  | some (.mt _ cs),some cu=>decide (off+cs.length<=cu.length)&&uo j 0 ((cu.drop off).take cs.length) cs&&FF es u off cs.length j 0
  | _,_=>false)
def uW (args:List (List A)) (s:Nat->AV):Ou->Option (List A)
 | .no=>some []
 | .mp j=>fO j s
 | .mt j u off=>match fO u s,args[j]? with
  | some ra,some as=>some (BL as ((ra.drop off).take as.length))
  | _,_=>none
section
variable {P:Program} {ac:Nat->Nat->Value} {κ0 κ:aL} {w0 w:World} {N:Nat} {tg:Nat->TT} {sv s:Nat->AV} {a:Act} {D:List TT} {sg:aI} {es:List Ent} {zs:List (Nat × Nat)}
theorem aas (h:R ac κ0 w0 κ w N tg sv (gm a)) (hN:sg.ps.length<=N) {j u:Nat} (hu:u≠FB) {vs:List Value} (hac:∀k,ac j k=vs.getD k undef) {get:Nat->Value}:∀{cu cs:List CT} {k off:Nat} {asj row:List A},uo j k cu cs=true ->
  (∀i,i<cs.length->match es.find? (fun e=>e.hit u (off+i)) with|some e=>e.d=j/\e.b+(off+i-e.lo)=k+i|none=>False) ->
  (∀i jj c e,cu[i]?=some (.sl (.own (some (jj,c))) e)->get (off+i)=ac jj c) ->
  ax κ w cu (u,[]) off get row->ax κ0 w0 cs (j,[]) k (fun i=>vs.getD i undef) asj->ax (nW κ0 κ (lD es zs)) w cs (j,[]) k (fun i=>vs.getD i undef) (BL asj row)
 | [],[],k,off,asj,row,_,_,_,h1,h2=>by
  cases asj with
  | nil=>simp [BL,ax]
  | cons=>simp [ax] at h2
 | [],_::_,_,_,_,_,hm,_,_,_,_=>by simp [uo] at hm
 | c::cu,[],_,_,_,_,hm,_,_,_,_=>by simp [uo] at hm
 | c::cu,.d::cs,k,off,asj,row,hm,hf,hp,h1,h2=>by
  cases asj with
  | nil=>simp [ax] at h2
  | cons x asj=>
   cases row with
   | nil=>simp [ax] at h1
   | cons r row=>
    simp only [ax] at h1 h2
    have hm':uo j (k+1) cu cs=true:=by
     cases c with
     | d=>simpa only [uo] using hm
     | sl m e=>cases m with
      | own p=>cases p with
       | none=>simpa only [uo] using hm
       | some p=>simpa only [uo] using hm
      | ro S=>simpa only [uo] using hm
      | dead=>simpa only [uo] using hm
    have ih:=aas h hN hu hac (off:=off+1) hm' (fun i hi=>by
     have:=hf (i+1) (by simpa using hi)
     rw [show off+1+i=off+(i+1) from by omega,show k+1+i=k+(i+1) from by omega];exact this) (fun i jj c e hc=>by
     have:=hp (i+1) jj c e (by simpa using hc)
     rw [show off+1+i=off+(i+1) from by omega];exact this) h1.2 h2.2
    cases x with
    | s xs=>simp [RC] at h2
    | v y=>
     simp only [BL,ax]
     exact ⟨by simpa only [RC] using h2.1,ih⟩
 | c::cu,.sl m e'::cs,k,off,asj,row,hm,hf,hp,h1,h2=>by
  cases asj with
  | nil=>simp [ax] at h2
  | cons x asj=>
   cases row with
   | nil=>simp [ax] at h1
   | cons r row=>
    unfold uo at hm
    split at hm
    ·rename_i h3 h4;cases h3
    ·rename_i h3 h4;cases h4
    ·rename_i jj kk e cu' p e'' cs' h3 h4
     cases h3;cases h4
     simp only [aP,beq_iff_eq] at hm
     obtain ⟨⟨⟨rfl,rfl⟩,hok⟩,hm'⟩:=hm
     simp only [ax] at h1 h2
     have ih:=aas h hN hu hac (off:=off+1) hm' (fun i hi=>by
      have:=hf (i+1) (by simpa using hi)
      rw [show off+1+i=off+(i+1) from by omega,show kk+1+i=kk+(i+1) from by omega];exact this) (fun i jj c e hc=>by
      have:=hp (i+1) jj c e (by simpa using hc)
      rw [show off+1+i=off+(i+1) from by omega];exact this) h1.2 h2.2
     cases x with
     | v y=>simp [RC] at h2
     | s xs=>
      simp only [BL,ax]
      refine ⟨?_,ih⟩
      have hhead:=hp 0 jj kk e rfl
      simp only [Nat.add_zero] at hhead
      have h5:RC κ w (.sl (.own p) e') (u,[off]) (get off) r:=by
       have:ax κ w [.sl (.own (some (jj,kk))) e] (u,[]) off get [r]:=by simp only [ax];exact ⟨h1.1,trivial⟩
       have:=ND hok this
       simp only [ax] at this
       simpa [Pl.at] using this.1
      rw [hhead,hac] at h5
      have hno:CT.allS (fun _=>False) (.sl (.own p) e'):=by
       have:=(nT hok).2.2
       simp only [CT.noros,Bool.and_true] at this
       exact Xk this
      have h6:=Nr (f:=id) (κ':=nW κ0 κ (lD es zs)) (w':=w) (p':=(jj,[kk])) (fun S hS=>hS.elim) hno (fun b q hb=>⟨?_,Same.refl w b⟩) h5
      ·rw [Vk] at h6
       simpa [Pl.at] using h6
      ·simp only [List.singleton_append] at hb ⊢
       rw [J7 h hb hu]
       have:=hf 0 (by simp)
       simp only [Nat.add_zero] at this
       split at this
       ·rename_i e1 he
        simp only [lD,he,Option.map_some,this.1,this.2]
       ·exact this.elim
    ·cases hm
end
def NN:ResultVar->Nat
 | .tmp t=>t
 | .cell a _=>a
def kF (s:Nat->AV):List Nat->Option (List A)
 | []=>some []
 | t::ts=>match fO t s,kF s ts with
  | some as,some r=>some (as++r)
  | _,_=>none
theorem aq8 {P:Program} {D:List TT} {rv:ResultVar} {I:SI} (h:XC P D rv=some I):I.reg=NN rv:=by
 cases rv with
 | tmp t=>
  simp only [XC] at h;split at h
  ·cases h;rfl
  ·split at h
   ·split at h
    ·cases h;rfl
    ·cases h
   ·cases h
  ·cases h
 | cell a ty=>
  simp only [XC] at h;split at h
  ·split at h
   ·cases h;rfl
   ·cases h
  ·cases h
theorem Qs {P:Program} {D:List TT} {s:Nat->AV}:∀{rvs:List ResultVar} {Is:List SI},BK P D rvs=some Is->NL s Is=kF s (rvs.map NN)
 | [],Is,h=>by simp only [BK,aK] at h;subst h;rfl
 | rv::rvs,Is,h=>by
  simp only [BK] at h;split at h
  ·rename_i I Is' h1 h2;cases h;simp only [NL,List.map_cons,kF,aq8 h1,Qs h2];rfl
  ·cases h
def aat (np:Nat):List SI->Nat->List Ent
 | [],_=>[]
 | I::Is,b=>(if CT.nowns I.cs then [] else [⟨I.t,I.off,I.cs.length,np,b⟩])++aat np Is (b+I.cs.length)
def aau (P:Program) (sg:aI) (D:List TT) (rvs:List ResultVar) (ou:Ou):Option (List Ent × List (Nat × Nat)):=
 let np:=sg.ps.length
 match sg.res,rvs with
 | .u,[]=>some ((J9 sg ou).1,(J9 sg ou).2)
 | .bx cs,[.tmp t]=>match gt D t with
  | .box cr=>
   let es:=⟨t,0,cr.length,np,0⟩::(J9 sg ou).1
   let zs:=(t,np)::(J9 sg ou).2
   if FF es t 0 cr.length np 0&&Zi sg es zs cr&&CT.les cr cs then some (es,zs) else none
  | _=>none
 | .one ag cs,[rv]=>match XC P D rv with
  | some I=>
   let es:=aat np [I] 0++(J9 sg ou).1
   let zs:=(J9 sg ou).2
   if Ez sg es zs np [I] 0&&(I.ag == ag)&&CT.les I.cs cs then some (es,zs) else none
  | none=>none
 | .tup ws cs,rvs=>match BK P D rvs with
  | some Is=>
   let es:=aat np Is 0++(J9 sg ou).1
   let zs:=(J9 sg ou).2
   if Ez sg es zs np Is 0&&decide (Is.map (fun I=>(I.ag,I.cs.length))=ws)&&CT.les (Is.flatMap (·.cs)) cs&&decide (2<=rvs.length) then some (es,zs) else none
  | none=>none
 | _,_=>none
def NP (sg:aI) (d:Nat):Bool:=(d == sg.ps.length) || (match sg.ps[d]? with
 | some pm=>pm.mut
 | none=>false)
def am3 (P:Program) (sg:aI) (rvs:List ResultVar) (ou:Ou) (D:List TT):Bool:=
 match aau P sg D rvs ou with
 | some (es,zs)=>agv sg D es zs ou&&es.all (fun e=>NP sg e.d)&&zs.all (fun z=>NP sg z.2)
 | none=>false
def agw (P:Program) (sigs:FuncId->Option aI) (K:FuncId) (sg:aI) (h:HT) (ou:Ou):Option (CC × List Nat):=
 match P.funcs[K]? with
 | some fn=>match fn.body with
  | some c=>match kE P sigs (aar sg) fn.ntmps h c (inD sg fn.ntmps) with
   | some (cc,out)=>if decide (sg.ps.length<=fn.ntmps)&&decide (fn.ntmps<=FB)&&sg.ps.all alV&&(out.n.toList++out.rt).all (am3 P sg fn.results.toList ou) then some (cc,fn.results.toList.map NN) else none
   | none=>none
  | none=>none
 | none=>none
section
variable {P:Program} {κ0 κ:aL} {w0 w:World} {N:Nat} {tg:Nat->TT} {sv s:Nat->AV} {a:Act} {D:List TT} {sg:aI} {es:List Ent} {zs:List (Nat × Nat)} {ac:Nat->Nat->Value}
def ar7:List Value->Value
 | [x]=>x
 | xs=>.tuple xs.toArray
theorem xz {fn:Func} {xs:List Value} (hl:xs.length=fn.results.toList.length) (h:∀(i:Nat) rv,fn.results.toList[i]?=some rv->∃x,xs[i]?=some x/\(NM a.tmps rv).run P w = .ok x w) :
  (results fn a.tmps).run P w = .ok (ar7 xs) w:=by
 have h1:(fn.results.mapM (NM a.tmps)).run P w = .ok xs.toArray w:=aji h hl;have h2:results fn a.tmps=(do
   let vs <-fn.results.mapM (NM a.tmps)
   pure (if h:vs.size=1 then vs[0] else .tuple vs):Sem Value):=by
  unfold results;congr 1
 rw [h2,aB h1];cases xs with
 | nil=>rfl
 | cons x xs=>
  cases xs with
  | nil=>rfl
  | cons y xs=>rfl
theorem ajj (h:R ac κ0 w0 κ w N tg sv (gm a)) (hL:Le (gt D) s tg sv) (hN:sg.ps.length<=N) {fn:Func} {ou:Ou} (hre:aau P sg D fn.results.toList ou=some (es,zs)) {res:List A} (hres:kF s (fn.results.toList.map NN)=some res) :
  ∃v,(results fn a.tmps).run P w = .ok v w/\af6 (nW κ0 κ (lD es zs)) w sg.ps.length v res sg.res:=by
 unfold aau at hre;simp only at hre;split at hre
 ·rename_i h1 h2;cases hre;rw [h2] at hres;refine ⟨.tuple #[],?_,?_⟩
  ·have:=xz (P:=P) (w:=w) (a:=a) (fn:=fn) (xs:=[]) (by rw [h2];rfl) (by rw [h2];simp);exact this
  ·rw [h1];rfl
 ·rename_i cs t h1 h2;split at hre;case h_2=>cases hre
  case h_1 cr hT=>
  split at hre;case isFalse=>cases hre
  case isTrue hc=>
  cases hre;simp only [aP] at hc;rw [h2] at hres;simp only [List.map_cons,List.map_nil,NN,kF] at hres;split at hres;case h_2=>cases hres
  case h_1 as r hg hr=>
  cases hr;cases hres;rw [List.append_nil];obtain ⟨is,hs⟩:=bI hg;obtain ⟨e1,e2⟩:=hL.at hT (by simp);have k1:=h.tr t;rw [e1] at k1;simp only [TR] at k1;obtain ⟨as',b,g1,g2,g3,g4,g5,_,g7⟩:=k1;rw [e2,hs] at g1;cases g1;have htN:t<N:=by
   apply Nat.lt_of_not_le;intro hle;have:=h.out t hle;rw [e1] at this;cases this
  have hne:t≠FB:=Nat.ne_of_lt (Nat.lt_of_lt_of_le htN h.nle);refine ⟨.pointer (some ⟨b,0,none⟩),?_,?_⟩
  ·have:=xz (P:=P) (w:=w) (a:=a) (fn:=fn) (xs:=[.pointer (some ⟨b,0,none⟩)]) (by rw [h2];rfl) (fun i rv hi=>by
    rw [h2] at hi
    cases i with
    | zero=>simp at hi;subst hi;exact ⟨_,rfl,by show (pure (gm a t):Sem Value).run P w=_;rw [g2];rfl⟩
    | succ i=>simp at hi)
   exact this
  ·rw [h1];refine ⟨b,rfl,g3,?_,by rw [<-gN hc.2];exact g5,qF hc.2 (aeL h hN hne (by rw [hc.1.1];simp) (SH hc.1.2) (fun i _=>rfl) g7)⟩;rw [J7 h g4 hne];simp [lD]
 ·rename_i ag cs rv h1 h2;split at hre;case h_2=>cases hre
  case h_1 I hI=>
  split at hre;case isFalse=>cases hre
  case isTrue hc=>
  cases hre;simp only [aP,beq_iff_eq] at hc;have hIs:BK P D [rv]=some [I]:=by simp only [BK,hI]
  rw [h2,<-Qs hIs] at hres;obtain ⟨xs,vs,k1,k2,k3,k4,k5,k6⟩:=Qr (np:=sg.ps.length) (pre:=[]) (base:=0) h hL hN hIs hc.1.1 hres rfl;obtain ⟨x,rfl,hx⟩:=k5 I rfl;refine ⟨x,?_,?_⟩
  ·exact xz (P:=P) (w:=w) (a:=a) (fn:=fn) (xs:=[x]) (by rw [h2];rfl) (by rw [h2];exact k2)
  ·rw [h1];simp only [List.flatMap_cons,List.flatMap_nil,List.append_nil,List.nil_append] at k4 k6;exact ⟨vs,by rw [<-hc.1.2];exact hx,by rw [<-gN hc.2];exact k4,qF hc.2 k6⟩
 ·rename_i ws cs h1;split at hre;case h_2=>cases hre
  case h_1 Is hIs=>
  split at hre;case isFalse=>cases hre
  case isTrue hc=>
  cases hre;simp only [aP,decide_eq_true_eq] at hc;rw [<-Qs hIs] at hres;obtain ⟨xs,vs,k1,k2,k3,k4,k5,k6⟩:=Qr (np:=sg.ps.length) (pre:=[]) (base:=0) h hL hN hIs hc.1.1.1 hres rfl;refine ⟨.tuple xs.toArray,?_,?_⟩
  ·have:=xz (P:=P) (w:=w) (a:=a) (fn:=fn) (xs:=xs) k1 k2;rw [this];have hlen:2<=xs.length:=by rw [k1];exact hc.2
   cases xs with
   | nil=>simp at hlen
   | cons x xs=>
    cases xs with
    | nil=>simp at hlen
    | cons y xs=>rfl
  ·rw [h1];simp only [List.nil_append] at k6;exact ⟨xs.toArray,vs,rfl,by rw [<-hc.1.1.2];exact k3,by rw [<-gN hc.1.2];exact k4,qF hc.1.2 k6⟩
 ·cases hre
theorem aav {d:Nat} (h:NP sg d=true):d=sg.ps.length\/∃pm,sg.ps[d]?=some pm/\pm.mut=true:=by
 unfold NP at h;simp only [Bool.or_eq_true,beq_iff_eq] at h;rcases h with h|h
 ·exact .inl h
 ·split at h
  ·rename_i pm hpm;exact .inr ⟨pm,hpm,h⟩
  ·cases h
theorem alX (he:es.all (fun e=>NP sg e.d)=true) (hz:zs.all (fun z=>NP sg z.2)=true) {b r:Nat} {q:List Nat} (hk:nW κ0 κ (lD es zs) b=some (r,q)) :
  (r=FB/\∃q',κ0 b=some (FB,q'))\/r=sg.ps.length\/∃pm,sg.ps[r]?=some pm/\pm.mut=true:=by
 rcases J8 hk with ⟨rfl,h0⟩|⟨r0,q0,h1,h2⟩
 ·exact .inl ⟨rfl,_,h0⟩
 ·right;cases q0 with
  | nil=>
   simp only [lD,Option.map_eq_some_iff,Prod.mk.injEq] at h2;obtain ⟨z,hz1,rfl,_⟩:=h2;exact aav ((List.all_eq_true.1 hz) z (List.mem_of_find?_eq_some hz1))
  | cons j q=>
   simp only [lD,Option.map_eq_some_iff,Prod.mk.injEq] at h2;obtain ⟨e,he1,rfl,_⟩:=h2;exact aav ((List.all_eq_true.1 he) e (List.mem_of_find?_eq_some he1))
theorem aaw {j i:Nat} {o as:List A} (h:(List.replicate j []++[o])[i]?=some as):(i<j/\as=[])\/(i=j/\as=o):=by
 rw [List.getElem?_append] at h;split at h
 ·rename_i hi;simp only [List.length_replicate] at hi;rw [List.getElem?_replicate] at h;rw [if_pos hi] at h;cases h;exact .inl ⟨hi,rfl⟩
 ·rename_i hi;simp only [List.length_replicate] at hi h;cases hd:i-j with
  | zero=>rw [hd] at h;simp at h;subst h;exact .inr ⟨by omega,rfl⟩
  | succ k=>rw [hd] at h;simp at h
theorem aof (h:R ac κ0 w0 κ w N tg sv (gm a)) (hL:Le (gt D) s tg sv) (hN:sg.ps.length<=N) {ou:Ou} (hou:agv sg D es zs ou=true) {xs:List Value} {args:List (List A)}
  (hac:∀j k ag cs x,sg.ps[j]?=some (.mt ag cs)->xs[j]?=some x->ac j k=((cellsOf ag x).getD []).getD k undef) (hpar:∀i,aar sg i=true->gm a i=xs.getD i undef)
  (hargs:∀i pm x as,sg.ps[i]?=some pm->xs[i]?=some x->args[i]?=some as->kY κ0 w0 i x as pm) (hal:args.length=sg.ps.length)
  {o:List A} (ho:uW args s ou=some o):∀i pm x as,sg.ps[i]?=some pm->xs[i]?=some x->(List.replicate ou.j []++[o])[i]?=some as->af5 (nW κ0 κ (lD es zs)) w i x as pm:=by
 intro i pm x as hpm hx has;have triv:PM.outs (some pm)=false->af5 (nW κ0 κ (lD es zs)) w i x as pm:=by
  intro hf;cases pm<;>first
   | trivial
   | (simp [PM.outs] at hf)
 have other:∀j,agu sg j=true->i≠j->PM.outs (some pm)=false:=by
  intro j hno hij;have:=(List.all_eq_true.1 hno) i (List.mem_range.2 (aT hpm).1);rw [hpm] at this;simpa [hij] using this
 cases ou with
 | no=>
  refine triv ?_;have:=(List.all_eq_true.1 hou) i (List.mem_range.2 (aT hpm).1);rw [hpm] at this;simpa using this
 | mp j=>
  simp only [agv,aP] at hou;rcases aaw has with ⟨hi,_⟩|⟨hij,rfl⟩
  ·exact triv (other j hou.1 (by have:i<j:=hi;omega))
  ·have hij:j=i:=hij.symm;subst hij;have hou2:=hou.2;rw [hpm] at hou2;split at hou2;case h_2=>cases hou2
   case h_1 cs cr hpm' hT=>
   cases hpm';simp only [aP] at hou2;obtain ⟨⟨hok,hent⟩,hz⟩:=hou2;simp only [uW] at ho;obtain ⟨is,hs⟩:=bI ho;obtain ⟨e1,e2⟩:=hL.at hT (by simp);have k1:=h.tr j;rw [e1] at k1;simp only [TR] at k1;obtain ⟨as',b,g1,g2,g3,g4,g5,_,g7⟩:=k1;rw [e2,hs] at g1;cases g1;have hjp:=(aT hpm).1;have hne:j≠FB:=by have:=h.nle;omega
   have hxj:x = .pointer (some ⟨b,0,none⟩):=by
    have:=hpar j (by unfold aar;rw [hpm];rfl);rw [bJ,hx,g2] at this;exact this.symm
   simp only [okE,aP,List.all_eq_true,decide_eq_true_eq,bne_iff_ne] at hok;have heq:=CT.beqs_eq hok.1.1;have hlen:cr.length=cs.length:=by
    have:=congrArg List.length heq;simpa [fG,dP] using this
   have hexro:∀S,(∀m,m∈S->m∈CT.roSs cr)->∀b,aU κ w S b->aU (nW κ0 κ (lD es zs)) w [] b:=by
    intro S hS b hb;refine ⟨hb.1,fun r p hk => ?_⟩;exfalso;rcases J8 hk with ⟨rfl,h0⟩|⟨r0,q0,h1,h2⟩
    ·have h1:=(h.fb b p h0).1;have h2:=(hok.2 _ (hS _ (hb.2 _ _ h1).1)).1.1;omega
    ·have h3:=hok.2 _ (hS _ (hb.2 _ _ h1).1);cases q0 with
     | nil=>
      simp only [lD,Option.map_eq_some_iff] at h2;obtain ⟨z,hz,_⟩:=h2;have h4:=List.find?_some hz;exact h3.2 z (List.mem_of_find?_eq_some hz) (by simpa using h4)
     | cons k q=>
      simp only [lD,Option.map_eq_some_iff] at h2;obtain ⟨e,he,_⟩:=h2;have h4:=List.find?_some he;simp only [Ent.hit,aP,beq_iff_eq] at h4;exact h3.1.2 e (List.mem_of_find?_eq_some he) h4.1.1
   refine ⟨b,hxj,g3,?_,by rw [<-hlen];exact g5,?_⟩
   ·rw [J7 h g4 hne];split at hz
    ·rename_i p hp;simp only [beq_iff_eq] at hz;simp only [lD,hp,Option.map_some,hz]
    ·cases hz
   ·have h8:=dJ (f:=fun _=>[]) (P:=fun S=>∀m,m∈S->m∈CT.roSs cr) (κ':=nW κ0 κ (lD es zs)) (w':=w) (p':=(j,[])) (j':=0) (get':=cellD w b) (fun S hS b hb=>⟨hexro S hS b hb,Same.refl w b⟩) (kZ fun m hm=>hm) (fun i hi b2 q hb=>⟨?_,Same.refl w b2⟩) (fun i hi=>rfl) g7
    ·have h9:=dK.2 h8;rw [heq] at h9;exact dK.1 h9
    ·simp only [List.nil_append] at hb ⊢;rw [J7 h hb hne];simp only [FF,List.all_eq_true] at hent;have h1:=hent i (List.mem_range.2 (by omega));split at h1
     ·rename_i e he;simp only [aP,beq_iff_eq] at h1;simp only [lD,he,Option.map_some,h1.1,h1.2]
     ·cases h1
 | mt j u off=>
  simp only [agv,aP] at hou;rcases aaw has with ⟨hi,_⟩|⟨hij,rfl⟩
  ·exact triv (other j hou.1 (by have:i<j:=hi;omega))
  ·have hij:j=i:=hij.symm;subst hij;have hou2:=hou.2;rw [hpm] at hou2;split at hou2;case h_2=>cases hou2
   case h_1 ag cs cu hpm' hcu=>
   cases hpm';simp only [aP,decide_eq_true_eq] at hou2;obtain ⟨⟨hfit,hmt⟩,hent⟩:=hou2;simp only [uW] at ho;split at ho;case h_2=>cases ho
   case h_1 ra asj hra haj=>
   cases ho;have hA:=hargs j _ x asj hpm hx haj;obtain ⟨vs,v1,v2,v3⟩:=hA;obtain ⟨is,hs⟩:=bI hra;obtain ⟨hcu',hsu⟩:=vM hL hcu;obtain ⟨ra',hra'⟩:=h.sv_root hcu';rw [hsu,hs] at hra';cases hra';have hroot:=h.root hcu' (by rw [hsu,hs]);have hasl:asj.length=cs.length:=bR v3;have hrow:=jm cs.length (jl off hroot);rw [Nat.zero_add] at hrow;have huN:u<N:=by
    apply Nat.lt_of_not_le;intro hle;have:=h.out u hle;rw [this] at hcu';simp [TT.cts] at hcu'
   have hpins:mf ac cu (rg w (tg u) (gm a u)):=by
    have k1:=h.tr u;cases hT:tg u with
    | val ag' cs'=>
     rw [hT] at k1 hcu';simp only [TT.cts,aK] at hcu';subst hcu';simp only [TR] at k1;obtain ⟨as,ws,g1,g2,g3,g4,g5⟩:=k1;have:rg w (.val ag' cs') (gm a u)=fun k=>ws.getD k undef:=by funext k;simp [rg,g2]
     rw [this];exact g4
    | box cs'=>
     rw [hT] at k1 hcu';simp only [TT.cts,aK] at hcu';subst hcu';simp only [TR] at k1;obtain ⟨as,b,g1,g2,g3,g4,g5,g6,g7⟩:=k1;have:rg w (.box cs') (gm a u)=cellD w b:=by funext k;simp [rg,g2]
     rw [this];exact g6
    | dead=>rw [hT] at hcu';simp [TT.cts] at hcu'
    | alias=>rw [hT] at hcu';simp [TT.cts] at hcu'
    | ptr=>rw [hT] at hcu';simp [TT.cts] at hcu'
    | tup=>rw [hT] at hcu';simp [TT.cts] at hcu'
   refine ⟨vs,v1,v2,?_⟩;rw [hasl];refine aas (j:=j) (u:=u) h hN (by have:=h.nle;omega) (vs:=vs) (fun k => ?_) hmt (fun i hi => ?_) (fun i jj c e hc => ?_) hrow v3
   ·rw [hac j k ag cs x hpm hx,v1];rfl
   ·have:=(List.all_eq_true.1 hent) i (List.mem_range.2 hi);split at this
    ·rename_i e he;rw [he];simpa using this
    ·cases this
   ·have hi:i<cs.length:=by
     have:=(aT hc).1;simp only [List.length_take,List.length_drop] at this;omega
    rw [List.getElem?_take_of_lt hi,List.getElem?_drop] at hc;exact hpins _ _ _ _ hc
end
theorem aq9 {P:Program} {sigs:FuncId->Option aI} {K:FuncId} {sg:aI} {h:HT} {ou:Ou} {cc:CC} {regs:List Nat} (hc:agw P sigs K sg h ou=some (cc,regs)) {args:List (List A)} {res o:List A}
  (hW:W P cc (inS args) fun e s=>(e = .normal\/e = .ret)/\kF s regs=some res/\uW args s ou=some o):Good P K sg args res (List.replicate ou.j []++[o]):=by
 unfold agw at hc;split at hc;case h_2=>cases hc
 case h_1 fn hfn=>
 split at hc;case h_2=>cases hc
 case h_1 c hb=>
 split at hc;case h_2=>cases hc
 case h_1 cc' out hck=>
 split at hc;case isFalse=>cases hc
 case isTrue hcond=>
 cases hc;simp only [aP,decide_eq_true_eq] at hcond;obtain ⟨⟨⟨hN,hNF⟩,hpm⟩,hend⟩:=hcond;intro κ w xs hcol hmine hxl hal hargs;refine calls_of_wp hfn hb ?_;have hgm:∀t,gm { tmps:=xs.toArray++Array.replicate (fn.ntmps-xs.toArray.size) undef,defers:=[] } t=xs.getD t undef:=by
  intro t;simp only [gm,Array.getD_eq_getD_getElem?,bJ,Array.getElem?_append,Array.getElem?_replicate];by_cases ht:t<xs.length
  ·simp [ht]
  ·simp only [List.size_toArray,if_neg ht];rw [List.getElem?_eq_none (by omega)];split<;>rfl
 have hR0:=apA hcol hxl hal hargs hN hNF hpm;have hRD:RD (aar sg) (fun i=>xs.getD i undef) (aao sg xs) κ w fn.ntmps (gt (inD sg fn.ntmps)) (inS args) { tmps:=xs.toArray++Array.replicate (fn.ntmps-xs.toArray.size) undef,defers:=[] } w:=by
  refine ⟨⟨κ,_,_,?_,fun t=>.inr ⟨rfl,rfl⟩⟩,?_,rfl,fun i _=>hgm i⟩
  ·have:gm { tmps:=xs.toArray++Array.replicate (fn.ntmps-xs.toArray.size) undef,defers:=[] }=fun t=>xs.getD t undef:=funext hgm
   rw [this];exact hR0
  ·simp;omega
 refine wp_mono (aoe hck hRD hW) fun e a w' hp => ?_
 have fin:∀s D,D∈out.n.toList++out.rt->kF s (fn.results.toList.map NN)=some res->uW args s ou=some o->RD (aar sg) (fun i=>xs.getD i undef) (aao sg xs) κ w fn.ntmps (gt D) s a w' ->
   a.defers=[]/\∃v,(results fn a.tmps).run P w' = .ok v w'/\∃v' κ',Ending.returned v = .returned v'/\Post sg κ w xs res (List.replicate ou.j []++[o]) κ' w' v':=by
  intro s D hD hres ho hRD;obtain ⟨κ1,tg,sv,hR,hL⟩:=hRD.st;have hE:=(List.all_eq_true.1 hend) D hD;unfold am3 at hE;split at hE;case h_2=>cases hE
  case h_1 es zs hre=>
  simp only [aP] at hE;obtain ⟨v,hv,hrr⟩:=ajj hR hL hN hre hres;refine ⟨hRD.defers,v,hv,v,nW κ κ1 (lD es zs),rfl,⟨fun b hb => ?_,⟨hR.fr.size,fun b hb h0 => ?_,hR.fr.os,hR.fr.out,hR.fr.tape⟩,fun b q h0 => ?_,fun b r q hk=>alX hE.1.2 hE.2 hk,hrr,?_⟩⟩
  ·have hk:=hR.col b hb;unfold nW;split
   ·rename_i r q h0;split
    ·rename_i he;subst he;have:=(hR.fb b q h0).1;rw [hk] at this;cases this
    ·rw [hk];rfl
   ·rw [hk];rfl
  ·have hk:=hR.fr.kept b hb h0;refine ⟨?_,hk.2⟩;unfold nW;rw [h0,hk.1];rfl
  ·refine ⟨?_,(hR.fb b q h0).2⟩;unfold nW;rw [h0];simp
  ·refine aof hR hL hN hE.1.1 (xs:=xs) (args:=args) (fun j k ag cs x hj hx => ?_) hRD.par hargs hal ho;unfold aao;rw [hj,hx]
 cases e with
 | normal=>
  obtain ⟨s,D,h1,⟨_,h2,h3⟩,h4⟩:=hp;obtain ⟨k1,v,k2,k3⟩:=fin s D (by simp [h1]) h2 h3 h4;exact ⟨k1,v,k2,k3⟩
 | ret=>
  obtain ⟨s,D,h1,⟨_,h2,h3⟩,h4⟩:=hp;obtain ⟨k1,v,k2,k3⟩:=fin s D (by simp [h1]) h2 h3 h4;exact ⟨k1,v,k2,k3⟩
 | exit id=>
  obtain ⟨s,D,h1,⟨h2,_⟩,_⟩:=hp;rcases h2 with h2|h2<;>cases h2
 | goto l=>exact hp
 | panic c=>exact hp.elim
 | outgrown=>exact hp.elim
end Go.Fw
namespace Go.Fw
inductive TY where
 | b
 | i (k:IntKind)
 | s
 | sl (e:List TY)
mutual
def TY.beq:TY->TY->Bool
 | .b,.b=>true
 | .s,.s=>true
 | .i k,.i k'=>decide (k=k')
 | .sl e,.sl e'=>TY.beqs e e'
 | _,_=>false
def TY.beqs:List TY->List TY->Bool
 | [],[]=>true
 | c::cs,c'::cs'=>c.beq c'&&TY.beqs cs cs'
 | _,_=>false
end
mutual
theorem TY.beq_eq:∀{c c':TY},c.beq c'=true->c=c'
 | .b,c',h=>by cases c'<;>simp [TY.beq] at h;rfl
 | .s,c',h=>by cases c'<;>simp [TY.beq] at h;rfl
 | .i k,c',h=>by cases c'<;>simp [TY.beq] at h;rw [h]
 | .sl e,c',h=>by
  cases c' with
  | sl e'=>simp only [TY.beq] at h;rw [TY.beqs_eq h]
  | _=>simp [TY.beq] at h
theorem TY.beqs_eq:∀{cs cs':List TY},TY.beqs cs cs'=true->cs=cs'
 | [],cs',h=>by cases cs'<;>simp [TY.beqs] at h;rfl
 | c::cs,cs',h=>by
  cases cs' with
  | nil=>simp [TY.beqs] at h
  | cons c' cs'=>
   simp only [TY.beqs,aP] at h;rw [TY.beq_eq h.1,TY.beqs_eq h.2]
end
mutual
def jd:TY->Type
 | .b=>Bool
 | .i _=>Int
 | .s=>ByteArray
 | .sl e=>List (aR e)
def aR:List TY->Type
 | []=>Unit
 | [c]=>jd c
 | c::c'::cs=>jd c × aR (c'::cs)
end
def lZ {c:TY}:{cs:List TY}->jd c->aR cs->aR (c::cs)
 | [],x,_=>x
 | _::_,x,r=>(x,r)
def dV {c:TY}:{cs:List TY}->aR (c::cs)->jd c
 | [],x=>x
 | _::_,x=>x.1
def gK {c:TY}:{cs:List TY}->aR (c::cs)->aR cs
 | [],_=>()
 | _::_,x=>x.2
theorem acY {c:TY} {cs:List TY} (x:jd c) (r:aR cs):dV (lZ x r)=x:=by cases cs<;>rfl
theorem acZ {c:TY} {cs:List TY} (x:jd c) (r:aR cs):gK (lZ x r)=r:=by cases cs<;>rfl
mutual
def enc:(c:TY)->jd c->A
 | .b,x=>.v (.bool x)
 | .i k,x=>.v (.int k x)
 | .s,x=>.v (.string x)
 | .sl e,x=>.s (List.map (aW e) x)
def aW:(cs:List TY)->aR cs->List A
 | [],_=>[]
 | [c],x=>[enc c x]
 | c::c'::cs,x=>enc c x.1::aW (c'::cs) x.2
end
abbrev yG {e:List TY} (v:jd (.sl e)):List (aR e):=v
theorem nX {e:List TY} (v:jd (.sl e)):enc (.sl e) v = .s (List.map (aW e) (yG v)):=by simp only [enc]
theorem cZ {c:TY} {cs:List TY} (x:aR (c::cs)):aW (c::cs) x=enc c (dV x)::aW cs (gK x):=by
 cases cs with
 | nil=>simp [aW,dV]
 | cons c' cs=>simp [aW,dV,gK]
theorem lc {c:TY} {cs:List TY} (x:jd c) (r:aR cs):aW (c::cs) (lZ x r)=enc c x::aW cs r:=by
 rw [cZ,acY,acZ]
theorem Qt:∀{cs:List TY} (x:aR cs),(aW cs x).length=cs.length
 | [],x=>by simp [aW]
 | c::cs,x=>by rw [cZ];simp [Qt]
def agx:(n:Nat)->(cs:List TY)->aR cs->aR (cs.drop n)
 | 0,_,x=>x
 | _+1,[],x=>x
 | n+1,_::cs,x=>agx n cs (gK x)
def Zj:(n:Nat)->(cs:List TY)->aR cs->aR (cs.take n)
 | 0,_,_=>()
 | _+1,[],x=>x
 | n+1,_::cs,x=>lZ (dV x) (Zj n cs (gK x))
theorem XD:∀{n:Nat} {cs:List TY} {x:aR cs},aW (cs.drop n) (agx n cs x)=(aW cs x).drop n
 | 0,_,_=>rfl
 | _+1,[],x=>rfl
 | n+1,c::cs,x=>by
  rw [cZ x];exact XD (n:=n) (cs:=cs) (x:=gK x)
theorem XE:∀{n:Nat} {cs:List TY} {x:aR cs},aW (cs.take n) (Zj n cs x)=(aW cs x).take n
 | 0,_,_=>rfl
 | _+1,[],x=>rfl
 | n+1,c::cs,x=>by
  refine (lc (dV x) (Zj n cs (gK x))).trans ?_;rw [cZ x,List.take_succ_cons,XE]
def aax {B:Type} (cs:List TY) (x:aR cs) (off n:Nat) (k:(cs':List TY)->aR cs'->B):B:=
 bif Nat.beq off 0&&Nat.ble cs.length n then k cs x else k ((cs.drop off).take n) (Zj n _ (agx off cs x))
theorem VG {B:Type} {cs:List TY} {x:aR cs} {off n:Nat} {k:(cs':List TY)->aR cs'->B}:∃cs' y,aax cs x off n k=k cs' y/\aW cs' y=((aW cs x).drop off).take n:=by
 unfold aax;cases h:(Nat.beq off 0&&Nat.ble cs.length n) with
 | true=>
  simp only [aP] at h;refine ⟨cs,x,rfl,?_⟩;have h1:=Nat.eq_of_beq_eq_true h.1;have h2:=Nat.le_of_ble_eq_true h.2;subst h1;rw [List.drop_zero,List.take_of_length_le (by rw [Qt];exact h2)]
 | false=>exact ⟨_,_,rfl,by rw [XE,XD]⟩
def nk {B:Type} (cs cs':List TY) (x:aR cs) (k:aR cs'->Option B):Option B:=
 if h:TY.beqs cs cs'=true then k ((TY.beqs_eq h)▸x) else none
theorem mD {B:Type} {cs cs':List TY} {x:aR cs} {k:aR cs'->Option B} {a:B} (h:nk cs cs' x k=some a):∃y,k y=some a/\aW cs' y=aW cs x:=by
 unfold nk at h;split at h
 ·rename_i hb;have he:=TY.beqs_eq hb;subst he;exact ⟨_,h,rfl⟩
 ·cases h
def Zk {B:Type} (c c':TY) (x:jd c) (k:jd c'->Option B):Option B:=
 if h:TY.beq c c'=true then k ((TY.beq_eq h)▸x) else none
theorem aay {B:Type} {c c':TY} {x:jd c} {k:jd c'->Option B} {a:B} (h:Zk c c' x k=some a):∃y,k y=some a/\enc c' y=enc c x:=by
 unfold Zk at h;split at h
 ·rename_i hb;have he:=TY.beq_eq hb;subst he;exact ⟨_,h,rfl⟩
 ·cases h
def BM {B:Type}:(cs:List TY)->aR cs->(off:Nat)->(cs':List TY)->aR cs'->(aR cs->Option B)->Option B
 | cs,x,0,[],_,k=>k x
 | [],_,0,_::_,_,_=>none
 | c::cs,x,0,c'::cs',y,k=>Zk c' c (dV y) fun v=>BM cs (gK x) 0 cs' (gK y) fun r=>k (lZ v r)
 | [],_,_+1,_,_,_=>none
 | _::cs,x,n+1,cs',y,k=>BM cs (gK x) n cs' y fun r=>k (lZ (dV x) r)
theorem EA {B:Type}:∀{cs:List TY} {x:aR cs} {off:Nat} {cs':List TY} {y:aR cs'} {k:aR cs->Option B} {a:B},BM cs x off cs' y k=some a ->
  ∃z,k z=some a/\aW cs z=splice (aW cs x) off (aW cs' y)
 | cs,x,0,[],_,k,a,h=>by
  refine ⟨x,by cases cs<;>exact h,?_⟩;simp [splice,aW]
 | [],_,0,_::_,_,_,_,h=>by simp [BM] at h
 | c::cs,x,0,c'::cs',y,k,a,h=>by
  simp only [BM] at h;obtain ⟨v,h1,h2⟩:=aay h;obtain ⟨r,h3,h4⟩:=EA h1;refine ⟨_,h3,?_⟩;rw [lc,h2,h4,cZ x,cZ y];simp only [splice,List.take_zero,List.nil_append,a_,Nat.zero_add,List.cons_append,List.drop_succ_cons]
 | [],x,n+1,cs',y,k,a,h=>by simp [BM] at h
 | c::cs,x,n+1,cs',y,k,a,h=>by
  simp only [BM] at h;obtain ⟨r,h3,h4⟩:=EA h;refine ⟨_,h3,?_⟩;rw [lc,h4,cZ x];simp only [splice,List.take_succ_cons,List.cons_append,Nat.add_right_comm n 1,List.drop_succ_cons]
def VH {B:Type}:(cs:List TY)->aR cs->Nat->(f:(c:TY)->jd c->(jd c->Option B)->Option B)->(aR cs->Option B)->Option B
 | [],_,_,_,_=>none
 | c::_,x,0,f,k=>f c (dV x) fun v=>k (lZ v (gK x))
 | _::cs,x,n+1,f,k=>VH cs (gK x) n f fun r=>k (lZ (dV x) r)
theorem aeM {B:Type} {a:B} {f:(c:TY)->jd c->(jd c->Option B)->Option B}:∀{cs:List TY} {x:aR cs} {n:Nat} {k:aR cs->Option B},VH cs x n f k=some a ->
  ∃c v k',(aW cs x)[n]?=some (enc c v)/\f c v k'=some a/\∀v',k' v'=some a->∃z,k z=some a/\aW cs z=(aW cs x).set n (enc c v')
 | [],_,_,_,h=>by simp [VH] at h
 | c::cs,x,0,k,h=>by
  simp only [VH] at h;refine ⟨c,dV x,_,by rw [cZ];rfl,h,fun v' hv=>⟨_,hv,?_⟩⟩;rw [lc,cZ x];rfl
 | c::cs,x,n+1,k,h=>by
  simp only [VH] at h;obtain ⟨c',v,k',h1,h2,h3⟩:=aeM h;refine ⟨c',v,k',by rw [cZ];simpa using h1,h2,fun v' hv => ?_⟩;obtain ⟨z,h4,h5⟩:=h3 v' hv;refine ⟨_,h4,?_⟩;rw [lc,cZ x,h5];rfl
def agy {B:Type}:(cs:List TY)->aR cs->Nat->((c:TY)->jd c->Option B)->Option B
 | [],_,_,_=>none
 | c::_,x,0,k=>k c (dV x)
 | _::cs,x,n+1,k=>agy cs (gK x) n k
theorem aeN {B:Type} {a:B}:∀{cs:List TY} {x:aR cs} {n:Nat} {k:(c:TY)->jd c->Option B},agy cs x n k=some a->∃c v,(aW cs x)[n]?=some (enc c v)/\k c v=some a
 | [],_,_,_,h=>by simp [agy] at h
 | c::cs,x,0,k,h=>⟨c,dV x,by rw [cZ];rfl,h⟩
 | c::cs,x,n+1,k,h=>by
  obtain ⟨c',v,h1,h2⟩:=aeN (cs:=cs) (x:=gK x) h;exact ⟨c',v,by rw [cZ];simpa using h1,h2⟩
def NQ {B:Type}:(cs:List TY)->aR cs->Sk->List Nat->((cs':List TY)->aR cs'->Option B)->Option B
 | cs,x,[],[],k=>k cs x
 | cs,x,(c,_)::sk,i::is,k=>agy cs x c fun t v=>match t,v with
  | .sl e,l=>Option.bind (@getElem? (List (aR e)) Nat _ _ _ l i) fun y=>NQ e y sk is k
  | _,_=>none
 | _,_,_,_,_=>none
theorem aaz {B:Type} {a:B}:∀{sk:Sk} {cs:List TY} {x:aR cs} {is:List Nat} {k:(cs':List TY)->aR cs'->Option B},NQ cs x sk is k=some a->∃e y,bH (aW cs x) sk is=some (aW e y)/\k e y=some a
 | [],cs,x,[],k,h=>⟨cs,x,rfl,h⟩
 | [],cs,x,_::_,k,h=>by simp [NQ] at h
 | _::_,cs,x,[],k,h=>by simp [NQ] at h
 | (c,n)::sk,cs,x,i::is,k,h=>by
  simp only [NQ] at h;obtain ⟨t,v,h1,h2⟩:=aeN h;cases t with
  | sl e=>
   simp only [Option.bind_eq_some_iff] at h2;obtain ⟨y,hy,h3⟩:=h2;obtain ⟨e',y',h4,h5⟩:=aaz h3;refine ⟨e',y',?_,h5⟩;rw [nX] at h1;simp only [bH,h1,List.getElem?_map];rw [show (yG v)[i]?=some y from hy];exact h4
  | _=>cases h2
def Qu {B:Type} (f:(e:List TY)->aR e->(aR e->Option B)->Option B):(cs:List TY)->aR cs->Sk->List Nat->(aR cs->Option B)->Option B
 | cs,x,[],[],k=>f cs x k
 | cs,x,(c,_)::sk,i::is,k=>VH cs x c (fun t v k'=>match t,v,k' with
  | .sl e,l,k'=>Option.bind (@getElem? (List (aR e)) Nat _ _ _ l i) fun y=>Qu f e y sk is fun y'=>k' (List.set (α:=aR e) l i y')
  | _,_,_=>none) k
 | _,_,_,_,_=>none
theorem VI {B:Type} {a:B} {f:(e:List TY)->aR e->(aR e->Option B)->Option B} {g:List A->List A} (hf:∀e y k,f e y k=some a->∃z,k z=some a/\aW e z=g (aW e y)) :
  ∀{sk:Sk} {cs:List TY} {x:aR cs} {is:List Nat} {k:aR cs->Option B},Qu f cs x sk is k=some a->∃row z,bH (aW cs x) sk is=some row/\k z=some a/\aW cs z=iV (aW cs x) sk is (g row)
 | [],cs,x,[],k,h=>by
  obtain ⟨z,h1,h2⟩:=hf _ _ _ h;exact ⟨_,z,rfl,h1,h2⟩
 | [],cs,x,_::_,k,h=>by simp [Qu] at h
 | _::_,cs,x,[],k,h=>by simp [Qu] at h
 | (c,n)::sk,cs,x,i::is,k,h=>by
  simp only [Qu] at h;obtain ⟨t,v,k',h1,h2,h3⟩:=aeM h;cases t with
  | sl e=>
   simp only [Option.bind_eq_some_iff] at h2;obtain ⟨y,hy,h4⟩:=h2;obtain ⟨row,z,h5,h6,h7⟩:=VI hf h4;obtain ⟨w,h8,h9⟩:=h3 _ h6;refine ⟨row,w,?_,h8,?_⟩
   ·rw [nX] at h1;simp only [bH,h1,List.getElem?_map];rw [show (yG v)[i]?=some y from hy];exact h5
   ·rw [h9,show enc (.sl e) (List.set v i z) = .s (List.map (aW e) ((yG v).set i z)) from nX (e:=e) ((yG v).set i z)];rw [nX] at h1;simp only [iV,h1,List.getElem?_map];rw [show (yG v)[i]?=some y from hy];simp only [Option.map_some];rw [<-h7,List.map_set]
  | _=>cases h2
mutual
def zT:(c:TY)->jd c
 | .b=>false
 | .i _=>(0:Int)
 | .s=>ByteArray.empty
 | .sl _=>[]
def zL:(cs:List TY)->aR cs
 | []=>()
 | [c]=>zT c
 | c::c'::cs=>(zT c,zL (c'::cs))
end
def ar8 (c:TY) (v:Value):Option (jd c):=
 match c,v with
 | .b,.bool x=>some x
 | .i k,.int k' n=>if k=k' then some n else none
 | .s,.string x=>some x
 | .sl _,.slice none 0 0=>some []
 | _,_=>none
def aaA:(cs:List TY)->List Value->Option (aR cs)
 | [],[]=>some ()
 | c::cs,v::vs=>match ar8 c v,aaA cs vs with
  | some x,some r=>some (lZ x r)
  | _,_=>none
 | _,_=>none
end Go.Fw
namespace Go.Fw
inductive BV where
 | n
 | v (cs:List TY) (x:aR cs) (is:List Nat)
 | p (is:List Nat)
def BV.av:BV->AV
 | .n=>.n
 | .v cs x is=>.v (aW cs x) is
 | .p is=>.p is
abbrev TS:=Nat->BV
def Sub (s:TS) (sA:Nat->AV):Prop:=∀t,s t = .n\/sA t=(s t).av
def ups {α:Type} (f:Nat->α) (d:Nat) (v:α) (t:Nat):α:=bif Nat.beq t d then v else f t
theorem aeO {α:Type} (f:Nat->α) (d:Nat) (v:α):ups f d v=upd f d v:=by
 funext t;unfold ups upd;by_cases h:t=d
 ·subst h;simp
 ·have:Nat.beq t d=false:=by
   cases hb:Nat.beq t d with
   | false=>rfl
   | true=>exact absurd (Nat.eq_of_beq_eq_true hb) h
  rw [this,if_neg h];rfl
def upz:TS->List Nat->List BV->TS
 | s,d::ds,v::vs=>ups (upz s ds vs) d v
 | s,_,_=>s
theorem Sub.ups {s:TS} {sA:Nat->AV} (h:Sub s sA) (d:Nat) (v:BV):Sub (ups s d v) (upd sA d v.av):=by
 intro t;rw [aeO];unfold upd;by_cases ht:t=d
 ·rw [if_pos ht,if_pos ht];exact .inr rfl
 ·rw [if_neg ht,if_neg ht];exact h t
theorem Sub.upz {s:TS} {sA:Nat->AV} (h:Sub s sA):∀(ds:List Nat) (vs:List BV),Sub (upz s ds vs) (ay sA (ds.zip (vs.map BV.av)))
 | [],_=>by simpa [Fw.upz,ay] using h
 | d::ds,[]=>by simpa [Fw.upz,ay] using h
 | d::ds,v::vs=>by
  have:=(h.upz ds vs).ups d v;intro t;rcases this t with h1|h1
  ·exact .inl h1
  ·right;simp only [Fw.upz,List.map_cons,List.zip_cons_cons,ay];unfold upd at h1;exact h1
structure SV where
 t:TY
 x:jd t
def SV.is (y:SV) (v:Value):Prop:=enc y.t y.x = .v v/\sc v=true
def DX.c' {B:Type} (s:TS) (k:SV->Option B):DX->Option B
 | .t i=>match s i with
  | .v [.b] x _=>k ⟨.b,x⟩
  | .v [.i n] x _=>k ⟨.i n,x⟩
  | .v [.s] x _=>k ⟨.s,x⟩
  | _=>none
 | .c v=>match v with
  | .bool b=>k ⟨.b,b⟩
  | .int n x=>k ⟨.i n,x⟩
  | .string x=>k ⟨.s,x⟩
  | _=>none
theorem J_ {B:Type} {s:TS} {sA:Nat->AV} (hs:Sub s sA) {k:SV->Option B} {a:B} {X:DX} (h:X.c' s k=some a):∃y v,X.get sA=some v/\SV.is y v/\k y=some a:=by
 cases X with
 | t i=>
  simp only [DX.c'] at h;split at h
  ·rename_i x is hi;have:=(hs i).resolve_left (by rw [hi];simp);rw [hi] at this;refine ⟨_,(.bool x:Value),?_,⟨by simp only [enc],rfl⟩,h⟩;simp only [DX.get,this,BV.av,aW,enc]
  ·rename_i n x is hi;have:=(hs i).resolve_left (by rw [hi];simp);rw [hi] at this;refine ⟨_,(.int n x:Value),?_,⟨by simp only [enc],rfl⟩,h⟩;simp only [DX.get,this,BV.av,aW,enc]
  ·rename_i x is hi;have:=(hs i).resolve_left (by rw [hi];simp);rw [hi] at this;refine ⟨_,(.string x:Value),?_,⟨by simp only [enc],rfl⟩,h⟩;simp only [DX.get,this,BV.av,aW,enc]
  ·cases h
 | c v=>
  cases v<;>simp only [DX.c'] at h<;>first
   | cases h
   | exact ⟨_,_,rfl,⟨rfl,rfl⟩,h⟩
def DXs.c' {B:Type} (s:TS):List DX->(List SV->Option B)->Option B
 | [],k=>k []
 | X::Xs,k=>X.c' s fun y=>DXs.c' s Xs fun ys=>k (y::ys)
def Ji:List SV->List Value->Prop
 | [],[]=>True
 | y::ys,v::vs=>SV.is y v/\Ji ys vs
 | _,_=>False
theorem aeP {B:Type} {s:TS} {sA:Nat->AV} (hs:Sub s sA):∀{Xs:List DX} {k:List SV->Option B} {a:B},DXs.c' s Xs k=some a->∃ys vs,DXs sA Xs=some vs/\Ji ys vs/\k ys=some a
 | [],k,a,h=>⟨[],[],rfl,trivial,h⟩
 | X::Xs,k,a,h=>by
  simp only [DXs.c'] at h;obtain ⟨y,v,h1,h2,h3⟩:=J_ hs h;obtain ⟨ys,vs,h4,h5,h6⟩:=aeP hs h3;exact ⟨y::ys,v::vs,by simp only [DXs,h1,h4],⟨h2,h5⟩,h6⟩
def alY (op:BinOp) (a b:Int):Option Bool:=
 match op with
 | .eql=>some (decide (a=b))
 | .neq=>some (!decide (a=b))
 | .lss=>some (decide (a<b))
 | .leq=>some (decide (a<=b))
 | .gtr=>some (decide (b<a))
 | .geq=>some (decide (b<=a))
 | _=>none
theorem aog (op:BinOp) (a b:Int):alY op a b=intCmp op a b:=by
 cases op<;>simp only [alY,intCmp]<;>first
  | rfl
  | (congr 1;rw [Bool.eq_iff_iff];simp)
def bnd {B:Type} (len:Nat) (i:Int) (k:Nat->Option B):Option B:=if 0<=i/\i.toNat<len then k i.toNat else none
def aaB {B:Type} (op:BinOp) (k:IntKind) (a b:Int) (K:SV->Option B):Option B:=
 match op with
 | .add=>K ⟨.i k,k.wrap (a+b)⟩
 | .sub=>K ⟨.i k,k.wrap (a-b)⟩
 | .mul=>K ⟨.i k,k.wrap (a*b)⟩
 | .quo=>cond (decide (b=0)) none (K ⟨.i k,k.wrap (a.tdiv b)⟩)
 | .rem=>cond (decide (b=0)) none (K ⟨.i k,a.tmod b⟩)
 | .and=>K ⟨.i k,bits .and k a b⟩
 | .or=>K ⟨.i k,bits .or k a b⟩
 | .xor=>K ⟨.i k,bits .xor k a b⟩
 | .andNot=>K ⟨.i k,bits .andNot k a b⟩
 | .eql=>K ⟨.b,decide (a=b)⟩
 | .neq=>K ⟨.b,!decide (a=b)⟩
 | .lss=>K ⟨.b,decide (a<b)⟩
 | .leq=>K ⟨.b,decide (a<=b)⟩
 | .gtr=>K ⟨.b,decide (b<a)⟩
 | .geq=>K ⟨.b,decide (b<=a)⟩
 | .shl=>cond (decide (b<0)) none (K ⟨.i k,k.wrap (a*2 ^ (Nat.min b.toNat k.bits))⟩)
 | .shr=>cond (decide (b<0)) none (K ⟨.i k,a.fdiv (2 ^ (Nat.min b.toNat k.bits))⟩)
def VJ:BinOp->Bool
 | .shl=>true
 | .shr=>true
 | _=>false
def alZ {B:Type} (op:BinOp) (a b:ByteArray) (K:SV->Option B):Option B:=
 match op with
 | .add=>cond (decide (a.size+b.size<=4611686018427387904)) (K ⟨.s,a++b⟩) none
 | .eql=>K ⟨.b,a.toList == b.toList⟩
 | .neq=>K ⟨.b,!(a.toList == b.toList)⟩
 | .lss=>K ⟨.b,Op.bytesLess a.toList b.toList⟩
 | .leq=>K ⟨.b,Op.bytesLess a.toList b.toList || a.toList == b.toList⟩
 | .gtr=>K ⟨.b,!(Op.bytesLess a.toList b.toList || a.toList == b.toList)⟩
 | .geq=>K ⟨.b,!Op.bytesLess a.toList b.toList⟩
 | _=>none
abbrev dI {k:IntKind} (x:jd (.i k)):Int:=x
abbrev dB (x:jd .b):Bool:=x
abbrev dS (x:jd .s):ByteArray:=x
def dfC {B:Type} (f:DF) (xs:List SV) (K:SV->Option B):Option B:=
 match f,xs with
 | .bin op,[⟨.i k,a⟩,⟨.i k',b⟩]=>bif VJ op || decide (k=k') then aaB op k (dI a) (dI b) K else none
 | .bin op,[⟨.s,a⟩,⟨.s,b⟩]=>alZ op (dS a) (dS b) K
 | .beq ne,[⟨.b,a⟩,⟨.b,b⟩]=>K ⟨.b,bif ne then !(dB a == dB b) else dB a == dB b⟩
 | .not,[⟨.b,a⟩]=>K ⟨.b,!(dB a)⟩
 | .neg,[⟨.i k,a⟩]=>K ⟨.i k,k.wrap (0-dI a)⟩
 | .conv k,[⟨.i _,a⟩]=>K ⟨.i k,k.wrap (dI a)⟩
 | .min,[⟨.i k,a⟩,⟨.i _,b⟩]=>K ⟨.i k,if dI b<dI a then dI b else dI a⟩
 | .max,[⟨.i k,a⟩,⟨.i _,b⟩]=>K ⟨.i k,if dI b > dI a then dI b else dI a⟩
 | .sidx,[⟨.s,s⟩,⟨.i _,i⟩]=>bnd (dS s).size (dI i) fun n=>Option.bind (dS s)[n]? fun b=>K ⟨.i .u8,(b.toNat:Int)⟩
 | .slen,[⟨.s,s⟩]=>K ⟨.i .i64,((dS s).size:Int)⟩
 | .ssl lo hi,⟨.s,s⟩::is=>match lo,hi,is with
  | false,false,[]=>K ⟨.s,(dS s).extract 0 (dS s).size⟩
  | true,false,[⟨.i _,l⟩]=>cond (decide (0<=dI l/\dI l<=(dS s).size)) (K ⟨.s,(dS s).extract (dI l).toNat (dS s).size⟩) none
  | false,true,[⟨.i _,h⟩]=>cond (decide (0<=dI h/\dI h<=(dS s).size)) (K ⟨.s,(dS s).extract 0 (dI h).toNat⟩) none
  | true,true,[⟨.i _,l⟩,⟨.i _,h⟩]=>cond (decide (0<=dI l/\dI l<=dI h/\dI h<=(dS s).size)) (K ⟨.s,(dS s).extract (dI l).toNat (dI h).toNat⟩) none
  | _,_,_=>none
 | _,_=>none
theorem dE {y:SV} {ys:List SV} {vs:List Value} (h:Ji (y::ys) vs):∃v vs',vs=v::vs'/\SV.is y v/\Ji ys vs':=by
 cases vs with
 | nil=>simp [Ji] at h
 | cons v vs=>exact ⟨v,vs,rfl,h.1,h.2⟩
theorem iF {vs:List Value} (h:Ji [] vs):vs=[]:=by
 cases vs with
 | nil=>rfl
 | cons=>simp [Ji] at h
theorem oN {k:IntKind} {a:jd (.i k)} {v:Value} (h:SV.is ⟨.i k,a⟩ v):v = .int k a:=by
 have:=h.1;simp only [enc,A.v.injEq] at this;exact this.symm
theorem al0 {a:jd .b} {v:Value} (h:SV.is ⟨.b,a⟩ v):v = .bool a:=by
 have:=h.1;simp only [enc,A.v.injEq] at this;exact this.symm
theorem aaC {a:jd .s} {v:Value} (h:SV.is ⟨.s,a⟩ v):v = .string a:=by
 have:=h.1;simp only [enc,A.v.injEq] at this;exact this.symm
theorem eB {B:Type} {c:Bool} {x y:Option B} {a:B} (h:cond c x y=some a):(c=true/\x=some a)\/(c=false/\y=some a):=by
 cases c
 ·exact .inr ⟨rfl,h⟩
 ·exact .inl ⟨rfl,h⟩
theorem SL (k:IntKind) (a:Int):SV.is ⟨.i k,a⟩ (.int k a):=⟨by simp only [enc],rfl⟩
theorem isB (a:Bool):SV.is ⟨.b,a⟩ (.bool a):=⟨by simp only [enc],rfl⟩
theorem isS (a:ByteArray):SV.is ⟨.s,a⟩ (.string a):=⟨by simp only [enc],rfl⟩
theorem aoh {B:Type} {op:BinOp} {k:IntKind} {a b:Int} {K:SV->Option B} {r:B} (h:aaB op k a b K=some r) (hsh:VJ op=false):∃y v,dfe (.bin op) [.int k a,.int k b]=some v/\SV.is y v/\K y=some r:=by
 cases op<;>simp only [aaB] at h<;>simp [VJ] at hsh<;>first
  | (refine ⟨_,_,?_,isB _,h⟩;simp only [dfe,JN,<-aog,alY];rfl)
  | (rcases eB h with ⟨_,h2⟩|⟨h1,h2⟩
     ·cases h2
     ·simp only [decide_eq_false_iff_not] at h1
      refine ⟨_,_,?_,SL _ _,h2⟩;simp only [dfe,JN,if_neg h1];rfl)
  | (refine ⟨_,_,?_,SL _ _,h⟩;simp only [dfe,JN];rfl)
theorem aoi {B:Type} {op:BinOp} {k k':IntKind} {a b:Int} {K:SV->Option B} {r:B} (h:aaB op k a b K=some r) (hsh:VJ op=true):∃y v,dfe (.bin op) [.int k a,.int k' b]=some v/\SV.is y v/\K y=some r:=by
 cases op<;>simp [VJ] at hsh<;>simp only [aaB] at h <;>
  (rcases eB h with ⟨_,h2⟩|⟨h1,h2⟩
   ·cases h2
   ·simp only [decide_eq_false_iff_not] at h1
    refine ⟨_,_,?_,SL _ _,h2⟩;simp only [dfe,af7,if_neg h1];rfl)
theorem aoj {B:Type} {op:BinOp} {a b:ByteArray} {K:SV->Option B} {r:B} (h:alZ op a b K=some r):∃y v,dfe (.bin op) [.string a,.string b]=some v/\SV.is y v/\K y=some r:=by
 cases op<;>simp only [alZ] at h<;>first
  | cases h
  | (refine ⟨_,_,?_,isB _,h⟩;simp only [dfe,ZC];rfl)
  | (rcases eB h with ⟨h1,h2⟩|⟨_,h2⟩
     ·simp only [decide_eq_true_eq] at h1
      refine ⟨_,_,?_,isS _,h2⟩;simp only [dfe,if_pos h1];rfl
     ·cases h2)
theorem aaD {B:Type} {len:Nat} {i:Int} {k:Nat->Option B} {a:B} (h:bnd len i k=some a):0<=i/\i.toNat<len/\k i.toNat=some a:=by
 unfold bnd at h;split at h
 ·rename_i hc;exact ⟨hc.1,hc.2,h⟩
 ·cases h
theorem apD {B:Type} {f:DF} {xs:List SV} {vs:List Value} {K:SV->Option B} {r:B} (hx:Ji xs vs) (h:dfC f xs K=some r):∃y v,dfe f vs=some v/\SV.is y v/\K y=some r:=by
 unfold dfC at h;split at h
 ·rename_i op k a k' b;obtain ⟨v0,vs,rfl,g0,hx⟩:=dE hx;obtain ⟨v1,vs,rfl,g1,hx⟩:=dE hx;obtain rfl:=iF hx;obtain rfl:=oN g0;obtain rfl:=oN g1;cases hsh:VJ op with
  | true=>
   rw [hsh] at h;exact aoi h hsh
  | false=>
   rw [hsh] at h;by_cases hk:k=k'
   ·subst hk;simp only [decide_true,Bool.or_true,af] at h;exact aoh h hsh
   ·simp [hk] at h
 ·obtain ⟨v0,vs,rfl,g0,hx⟩:=dE hx;obtain ⟨v1,vs,rfl,g1,hx⟩:=dE hx;obtain rfl:=iF hx;obtain rfl:=aaC g0;obtain rfl:=aaC g1;exact aoj h
 ·rename_i ne a b;obtain ⟨v0,vs,rfl,g0,hx⟩:=dE hx;obtain ⟨v1,vs,rfl,g1,hx⟩:=dE hx;obtain rfl:=iF hx;obtain rfl:=al0 g0;obtain rfl:=al0 g1;refine ⟨_,_,?_,isB _,h⟩;cases ne<;>rfl
 ·obtain ⟨v0,vs,rfl,g0,hx⟩:=dE hx;obtain rfl:=iF hx;obtain rfl:=al0 g0;exact ⟨_,_,rfl,isB _,h⟩
 ·obtain ⟨v0,vs,rfl,g0,hx⟩:=dE hx;obtain rfl:=iF hx;obtain rfl:=oN g0;exact ⟨_,_,rfl,SL _ _,h⟩
 ·obtain ⟨v0,vs,rfl,g0,hx⟩:=dE hx;obtain rfl:=iF hx;obtain rfl:=oN g0;exact ⟨_,_,rfl,SL _ _,h⟩
 ·obtain ⟨v0,vs,rfl,g0,hx⟩:=dE hx;obtain ⟨v1,vs,rfl,g1,hx⟩:=dE hx;obtain rfl:=iF hx;obtain rfl:=oN g0;obtain rfl:=oN g1;exact ⟨_,_,rfl,SL _ _,h⟩
 ·obtain ⟨v0,vs,rfl,g0,hx⟩:=dE hx;obtain ⟨v1,vs,rfl,g1,hx⟩:=dE hx;obtain rfl:=iF hx;obtain rfl:=oN g0;obtain rfl:=oN g1;exact ⟨_,_,rfl,SL _ _,h⟩
 ·rename_i s k i;obtain ⟨v0,vs,rfl,g0,hx⟩:=dE hx;obtain ⟨v1,vs,rfl,g1,hx⟩:=dE hx;obtain rfl:=iF hx;obtain rfl:=aaC g0;obtain rfl:=oN g1;obtain ⟨h3,_,h4⟩:=aaD h;simp only [Option.bind_eq_some_iff] at h4;obtain ⟨b,h5,h6⟩:=h4;refine ⟨_,_,?_,SL _ _,h6⟩;simp only [dfe];rw [if_pos h3];show ((dS s)[(dI i).toNat]?).map _=_;rw [h5];rfl
 ·obtain ⟨v0,vs,rfl,g0,hx⟩:=dE hx;obtain rfl:=iF hx;obtain rfl:=aaC g0;exact ⟨_,_,rfl,SL _ _,h⟩
 ·obtain ⟨v,vs,rfl,h1,hx⟩:=dE hx;obtain rfl:=aaC h1;split at h
  ·obtain rfl:=iF ‹Ji [] _›;exact ⟨_,_,rfl,isS _,h⟩
  ·have hx := ‹Ji (_::_) vs›;obtain ⟨v0,vs,rfl,g0,hx⟩:=dE hx;obtain rfl:=iF hx;obtain rfl:=oN g0;rcases eB h with ⟨h3,h4⟩|⟨_,h4⟩
   ·simp only [decide_eq_true_eq] at h3;refine ⟨_,_,?_,isS _,h4⟩;simp only [dfe];exact if_pos h3
   ·cases h4
  ·have hx := ‹Ji (_::_) vs›;obtain ⟨v0,vs,rfl,g0,hx⟩:=dE hx;obtain rfl:=iF hx;obtain rfl:=oN g0;rcases eB h with ⟨h3,h4⟩|⟨_,h4⟩
   ·simp only [decide_eq_true_eq] at h3;refine ⟨_,_,?_,isS _,h4⟩;simp only [dfe];exact if_pos h3
   ·cases h4
  ·have hx := ‹Ji (_::_) vs›;obtain ⟨v0,vs,rfl,g0,hx⟩:=dE hx;obtain ⟨v1,vs,rfl,g1,hx⟩:=dE hx;obtain rfl:=iF hx;obtain rfl:=oN g0;obtain rfl:=oN g1;rcases eB h with ⟨h3,h4⟩|⟨_,h4⟩
   ·simp only [decide_eq_true_eq] at h3;refine ⟨_,_,?_,isS _,h4⟩;simp only [dfe];exact if_pos h3
   ·cases h4
  ·cases h
 ·cases h
end Go.Fw
namespace Go.Fw
def oC {B:Type} (s:TS) (t:Nat) (k:(cs:List TY)->aR cs->List Nat->Option B):Option B:=
 match s t with
 | .v cs x is=>k cs x is
 | _=>none
def xA {B:Type} (s:TS) (t:Nat) (k:(e:List TY)->List (aR e)->List Nat->Option B):Option B:=
 match s t with
 | .v [.sl e] l is=>k e l is
 | _=>none
section
variable {B:Type} {s:TS} {sA:Nat->AV} {a:B}
theorem jY (hs:Sub s sA) {t:Nat} {k:(cs:List TY)->aR cs->List Nat->Option B} (h:oC s t k=some a):∃cs x is,sA t = .v (aW cs x) is/\k cs x is=some a:=by
 unfold oC at h;split at h
 ·rename_i cs x is ht;have:=(hs t).resolve_left (by rw [ht];simp);rw [ht] at this;exact ⟨cs,x,is,this,h⟩
 ·cases h
theorem ny {t:Nat} {as:List A} {is:List Nat} (h:sA t = .v as is):fO t sA=some as:=by
 simp only [fO,h]
theorem oO (hs:Sub s sA) {t:Nat} {k:(e:List TY)->List (aR e)->List Nat->Option B} (h:xA s t k=some a):∃e l is,oK t sA=some (List.map (aW e) l,is)/\k e l is=some a:=by
 unfold xA at h;split at h
 ·rename_i e l is ht;have:=(hs t).resolve_left (by rw [ht];simp);rw [ht] at this;refine ⟨e,l,is,?_,h⟩;simp only [oK,this,BV.av,aW,enc]
 ·cases h
end
inductive IX where
 | nil
 | t (i:Nat)
def IX.f:IX->(Nat->AV)->Option (List Nat)
 | .nil=>fun _=>some []
 | .t i=>af9 i
def IX.c {B:Type} (s:TS) (k:List Nat->Option B):IX->Option B
 | .nil=>k []
 | .t i=>match s i with
  | .p is=>k is
  | _=>none
inductive OY where
 | t (i:Nat)
 | c (cs:List TY) (vs:List Value)
def OY.f:OY->(Nat->AV)->Option (List A)
 | .t i=>fO i
 | .c cs vs=>fun _=>(aaA cs vs).map (aW cs)
def OY.c' {B:Type} (s:TS) (k:(cs:List TY)->aR cs->Option B):OY->Option B
 | .t i=>match s i with
  | .v cs x _=>k cs x
  | _=>none
 | .c cs vs=>match aaA cs vs with
  | some x=>k cs x
  | none=>none
section
variable {B:Type} {s:TS} {sA:Nat->AV} {a:B}
theorem agz (hs:Sub s sA) {X:IX} {k:List Nat->Option B} (h:X.c s k=some a):∃is,X.f sA=some is/\k is=some a:=by
 cases X with
 | nil=>exact ⟨[],rfl,h⟩
 | t i=>
  simp only [IX.c] at h;split at h
  ·rename_i is hi;have:=(hs i).resolve_left (by rw [hi];simp);rw [hi] at this;exact ⟨is,by simp only [IX.f,af9,this,BV.av],h⟩
  ·cases h
theorem FH (hs:Sub s sA) {X:OY} {k:(cs:List TY)->aR cs->Option B} (h:X.c' s k=some a):∃cs x,X.f sA=some (aW cs x)/\k cs x=some a:=by
 cases X with
 | t i=>
  simp only [OY.c'] at h;split at h
  ·rename_i cs x is hi;have:=(hs i).resolve_left (by rw [hi];simp);rw [hi] at this;exact ⟨cs,x,by simp only [OY.f,fO,this,BV.av],h⟩
  ·cases h
 | c cs vs=>
  simp only [OY.c'] at h;split at h
  ·rename_i x hx;exact ⟨cs,x,by simp only [OY.f,hx,Option.map_some],h⟩
  ·cases h
end
inductive ED where
 | data (f:DF) (Xs:List DX)
 | copy (t:Nat)
 | same (t:Nat)
 | p0
 | nl
 | lit (cs:List TY) (vs:List Value)
 | load (r:Nat) (sk:Sk) (off:Nat) (ix:IX) (n:Nat) (al:Bool)
 | idx (ix:IX)
 | index (t:Nat) (I:DX)
 | a (X:OY)
 | store (r:Nat) (sk:Sk) (off:Nat) (ix:IX) (V:OY)
 | len (t:Nat)
 | app (X:Option Nat) (yt:Nat)
 | build (Z:List TY) (qs:List (Nat × OY))
 | sli (e:List TY) (qs:List OY)
 | make (X:DX) (e:List TY)
 | ext (t off n:Nat)
 | res (t:Nat) (L H:Option DX)
 | eqA (ks:List EK) (X Y:OY) (ne:Bool)
 | bytes (t:Nat)
def uq (X:OY):OX:=⟨true,[],0,true,X.f,[]⟩
def al1:Option Nat->HX
 | none=>.nil
 | some t=>.t t []
def ED.f:ED->(Nat->AV)->Option (List AV)
 | .data f Xs=>Ny f Xs
 | .copy t=>eY t
 | .same t=>uf t
 | .p0=>fun _=>some [.p []]
 | .nl=>fun _=>some [.n]
 | .lit cs vs=>fun _=>(aaA cs vs).map fun x=>[.v (aW cs x) []]
 | .load r sk off ix n al=>yc ⟨r,sk,off,[],ix.f,[]⟩ n al
 | .idx ix=>Si ⟨0,[],0,[],ix.f,[]⟩
 | .index t I=>Fu ⟨0,[],0,[],[],t⟩ I
 | .a X=>Vr (uq X)
 | .store r sk off ix V=>mq ⟨r,sk,off,[],ix.f,[]⟩ (uq V)
 | .len t=>Sl t
 | .app X yt=>vO (al1 X) yt
 | .build Z qs=>Fx (aW Z (zL Z)) (qs.map fun q=>⟨q.1,uq q.2⟩)
 | .sli _ qs=>Su (qs.map fun q=>⟨0,uq q⟩)
 | .make X e=>NA X (aW e (zL e))
 | .ext t off n=>nU t off n
 | .res t L H=>Es t L H
 | .eqA ks X Y ne=>Sy ks X.f Y.f ne
 | .bytes t=>Z9 t
def agA {B:Type} (s:TS) (X:DX) (k:Nat->Option B):Option B:=
 X.c' s fun y=>match y with
  | ⟨.i _,n⟩=>cond (decide (0<=dI n)) (k (dI n).toNat) none
  | _=>none
def bdC {B:Type} (s:TS) (d:Nat) (X:Option DX) (k:Nat->Option B):Option B:=
 match X with
 | none=>k d
 | some X=>agA s X k
def agB {B:Type} (s:TS) (Z:List TY):List (Nat × OY)->aR Z->(aR Z->Option B)->Option B
 | [],x,k=>k x
 | (o,X)::qs,x,k=>X.c' s fun cs y=>BM Z x o cs y fun x'=>agB s Z qs x' k
def agC {B:Type} (s:TS) (e:List TY):List OY->(List (aR e)->Option B)->Option B
 | [],k=>k []
 | X::qs,k=>X.c' s fun cs y=>nk cs e y fun y'=>agC s e qs fun l=>k (y'::l)
def Qv {B:Type}:List EK->(cs:List TY)->aR cs->(cs':List TY)->aR cs'->(Bool->Option B)->Option B
 | [],[],_,[],_,k=>k true
 | .b::ks,.b::cs,x,.b::cs',y,k=>Qv ks cs (gK x) cs' (gK y) fun r=>k ((dB (dV x) == dB (dV y))&&r)
 | .i::ks,.i i::cs,x,.i i'::cs',y,k=>bif decide (i=i') then Qv ks cs (gK x) cs' (gK y) fun r=>k (decide (dI (dV x)=dI (dV y))&&r) else none
 | .s::ks,.s::cs,x,.s::cs',y,k=>Qv ks cs (gK x) cs' (gK y) fun r=>k (((dS (dV x)).toList == (dS (dV y)).toList)&&r)
 | _,_,_,_,_,_=>none
def ED.c {B:Type} (s:TS) (k:List BV->Option B):ED->Option B
 | .data f Xs=>DXs.c' s Xs fun ys=>dfC f ys fun y=>k [.v [y.t] y.x []]
 | .copy t=>oC s t fun cs x _=>k [.v cs x []]
 | .same t=>match s t with
  | .n=>none
  | .v cs x is=>k [.v cs x is]
  | .p is=>k [.p is]
 | .p0=>k [.p []]
 | .nl=>k [.n]
 | .lit cs vs=>match aaA cs vs with
  | some x=>k [.v cs x []]
  | none=>none
 | .load r sk off ix n al=>ix.c s fun is=>oC s r fun cs x _=>NQ cs x sk is fun cs' y=>aax cs' y off n fun cs'' z=>k [.v cs'' z (bif al then is else [])]
 | .idx ix=>ix.c s fun is=>k [.p is]
 | .index t I=>xA s t fun _ l is=>I.c' s fun y=>match y with
  | ⟨.i _,i⟩=>bnd l.length (dI i) fun n=>k [.p (is++[n])]
  | _=>none
 | .a X=>X.c' s fun cs x=>k [.v cs x []]
 | .store r sk off ix V=>ix.c s fun is=>oC s r fun cs x _=>V.c' s fun cs' y=>Qu (fun e row k'=>BM e row off cs' y k') cs x sk is fun z=>k [.v cs z []]
 | .len t=>xA s t fun _ l _=>k [.v [.i .i64] (l.length:Int) []]
 | .app none yt=>xA s yt fun e l _=>cond (decide (l.length<=4294967296)) (k [.v [.sl e] l []]) none
 | .app (some t) yt=>xA s t fun e l _=>xA s yt fun e' l' _=>Zk (.sl e') (.sl e) l' fun l'=>cond (decide (l.length+(yG l').length<=4294967296)) (k [.v [.sl e] (l++yG l') []]) none
 | .build Z qs=>agB s Z qs (zL Z) fun x=>k [.v Z x []]
 | .sli e qs=>agC s e qs fun l=>k [.v [.sl e] l []]
 | .make X e=>agA s X fun n=>cond (decide (n<=4294967296)) (k [.v [.sl e] (List.replicate n (zL e)) []]) none
 | .ext t off n=>oC s t fun cs x _=>aax cs x off n fun cs' y=>k [.v cs' y []]
 | .res t L H=>xA s t fun e l _=>bdC s 0 L fun lo=>bdC s l.length H fun hi=>cond (decide (lo<=hi/\hi<=l.length)) (k [.v [.sl e] ((l.drop lo).take (hi-lo)) []]) none
 | .eqA ks X Y ne=>X.c' s fun cs x=>Y.c' s fun cs' y=>Qv ks cs x cs' y fun r=>k [.v [.b] (bif ne then !r else r) []]
 | .bytes t=>xA s t fun e l _=>match e,l with
  | [.i .u8],l=>k [.v [.s] (Z8 l) []]
  | _,_=>none
section
variable {B:Type} {s:TS} {sA:Nat->AV} {a:B}
theorem aok:∀{ks:List EK} {cs:List TY} {x:aR cs} {cs':List TY} {y:aR cs'} {k:Bool->Option B},Qv ks cs x cs' y k=some a ->
  ∃xs ys r,Et (aW cs x)=some xs/\Et (aW cs' y)=some ys/\jB ks xs ys=some r/\k r=some a:=by
 intro ks;induction ks with
 | nil=>
  intro cs x cs' y k h;cases cs<;>cases cs'<;>simp [Qv] at h;exact ⟨[],[],true,rfl,rfl,rfl,h⟩
 | cons e ks ih=>
  intro cs x cs' y k h;unfold Qv at h;split at h
  ·rename_i h1;cases h1
  ·rename_i h1;cases h1;rename_i cs x cs' y;obtain ⟨xs,ys,r,g1,g2,g3,g4⟩:=ih h;refine ⟨.bool (dV x)::xs,.bool (dV y)::ys,_,?_,?_,?_,g4⟩
   ·rw [cZ];simp only [enc,Et,g1,Option.map_some]
   ·rw [cZ];simp only [enc,Et,g2,Option.map_some]
   ·simp only [jB,g3,Option.map_some]<;>rfl
  ·rename_i h1;cases h1;rcases eB h with ⟨h2,h⟩|⟨_,h⟩
   ·simp only [decide_eq_true_eq] at h2;subst h2;rename_i i0 cs x cs' y _;obtain ⟨xs,ys,r,g1,g2,g3,g4⟩:=ih h;refine ⟨.int i0 (dV x)::xs,.int i0 (dV y)::ys,_,?_,?_,?_,g4⟩
    ·rw [cZ];simp only [enc,Et,g1,Option.map_some]
    ·rw [cZ];simp only [enc,Et,g2,Option.map_some]
    ·simp only [jB,g3,Option.map_some,if_true];rfl
   ·cases h
  ·rename_i h1;cases h1;rename_i cs x cs' y;obtain ⟨xs,ys,r,g1,g2,g3,g4⟩:=ih h;refine ⟨.string (dV x)::xs,.string (dV y)::ys,_,?_,?_,?_,g4⟩
   ·rw [cZ];simp only [enc,Et,g1,Option.map_some]
   ·rw [cZ];simp only [enc,Et,g2,Option.map_some]
   ·simp only [jB,g3,Option.map_some]<;>rfl
  ·cases h
theorem bytesOf_map:∀l:List Int,bytesOf (List.map (aW [.i .u8]) l)=some l
 | []=>rfl
 | n::l=>by
  show bytesOf ([enc (.i .u8) n]::List.map (aW [.i .u8]) l)=_;simp only [enc,bytesOf,bytesOf_map l,Option.map_some]
theorem aeQ (hs:Sub s sA) {X:DX} {k:Nat->Option B} (h:agA s X k=some a):∃v n,X.get sA=some v/\toN v=some n/\k n=some a:=by
 unfold agA at h;obtain ⟨y,v,h1,h2,h3⟩:=J_ hs h;split at h3
 ·obtain rfl:=oN h2;rcases eB h3 with ⟨h4,h5⟩|⟨_,h5⟩
  ·simp only [decide_eq_true_eq] at h4;exact ⟨_,_,h1,by simp only [toN];exact if_pos h4,h5⟩
  ·cases h5
 ·cases h3
theorem ajl (hs:Sub s sA) {X:Option DX} {d:Nat} {k:Nat->Option B} (h:bdC s d X k=some a):∃n,vQ sA d X=some n/\k n=some a:=by
 cases X with
 | none=>exact ⟨d,rfl,h⟩
 | some X=>
  simp only [bdC] at h;obtain ⟨v,n,h1,h2,h3⟩:=aeQ hs h;exact ⟨n,by simp only [vQ,h1,h2],h3⟩
theorem aeR (hs:Sub s sA) {Z:List TY}:∀{qs:List (Nat × OY)} {x:aR Z} {k:aR Z->Option B},agB s Z qs x k=some a ->
  ∃ass y,ng sA (qs.map fun q=>⟨q.1,uq q.2⟩)=some ass/\aW Z y=Xg (aW Z x) ((Sq (qs.map fun q=>⟨q.1,uq q.2⟩)).zip ass)/\k y=some a
 | [],x,k,h=>⟨[],x,rfl,rfl,h⟩
 | (o,X)::qs,x,k,h=>by
  simp only [agB] at h;obtain ⟨cs,y,h1,h2⟩:=FH hs h;obtain ⟨x',h3,h4⟩:=EA h2;obtain ⟨ass,z,h5,h6,h7⟩:=aeR hs h3;refine ⟨aW cs y::ass,z,?_,?_,h7⟩
  ·simp only [List.map_cons,ng,uq];rw [h1];simp only [uq] at h5;rw [h5]
  ·rw [h6,h4];rfl
theorem aeS (hs:Sub s sA) {e:List TY}:∀{qs:List OY} {k:List (aR e)->Option B},agC s e qs k=some a ->
  ∃l:List (aR e),ng sA (qs.map fun q=>⟨0,uq q⟩)=some (l.map (aW e))/\k l=some a
 | [],k,h=>⟨[],rfl,h⟩
 | X::qs,k,h=>by
  simp only [agC] at h;obtain ⟨cs,y,h1,h2⟩:=FH hs h;obtain ⟨y',h3,h4⟩:=mD h2;obtain ⟨l,h5,h6⟩:=aeS hs h3;refine ⟨y'::l,?_,h6⟩;simp only [List.map_cons,ng,uq];rw [h1,h4];simp only [uq] at h5;rw [h5]
theorem apE (hs:Sub s sA) {e:ED} {k:List BV->Option B} (h:e.c s k=some a):∃vs,e.f sA=some (vs.map BV.av)/\k vs=some a:=by
 cases e with
 | data f Xs=>
  simp only [ED.c] at h;obtain ⟨ys,vs,h1,h2,h3⟩:=aeP hs h;obtain ⟨y,v,h4,h5,h6⟩:=apD h2 h3;refine ⟨_,?_,h6⟩;simp only [ED.f,Ny,h1,h4,List.map_cons,List.map_nil,BV.av];show _=some [AV.v (aW [y.t] y.x) []];rw [show aW [y.t] y.x=[enc y.t y.x] from by simp only [aW],h5.1]
 | copy t=>
  simp only [ED.c] at h;obtain ⟨cs,x,is,h1,h2⟩:=jY hs h;exact ⟨_,by simp only [ED.f,eY,ny h1,Option.map_some,List.map_cons,List.map_nil,BV.av],h2⟩
 | same t=>
  simp only [ED.c] at h;split at h
  ·cases h
  ·rename_i cs x is ht;have:=(hs t).resolve_left (by rw [ht];simp);rw [ht] at this;exact ⟨_,by simp only [ED.f,uf,this,List.map_cons,List.map_nil],h⟩
  ·rename_i is ht;have:=(hs t).resolve_left (by rw [ht];simp);rw [ht] at this;exact ⟨_,by simp only [ED.f,uf,this,List.map_cons,List.map_nil],h⟩
 | p0=>exact ⟨_,rfl,h⟩
 | nl=>exact ⟨_,rfl,h⟩
 | lit cs vs=>
  simp only [ED.c] at h;split at h
  ·rename_i x hx;exact ⟨_,by simp only [ED.f,hx,Option.map_some,List.map_cons,List.map_nil,BV.av],h⟩
  ·cases h
 | load r sk off ix n al=>
  simp only [ED.c] at h;obtain ⟨is,h1,h2⟩:=agz hs h;obtain ⟨cs,x,is',h3,h4⟩:=jY hs h2;obtain ⟨e,y,h5,h6⟩:=aaz h4;obtain ⟨cs',z,h7,h8⟩:=VG (cs:=e) (x:=y) (off:=off) (n:=n) (k:=fun cs'' z=>k [.v cs'' z (bif al then is else [])]);rw [h7] at h6;refine ⟨_,?_,h6⟩;simp only [ED.f,yc,Sg,h1,ny h3,h5,List.map_cons,List.map_nil,BV.av,h8];cases al<;>rfl
 | idx ix=>
  simp only [ED.c] at h;obtain ⟨is,h1,h2⟩:=agz hs h;exact ⟨_,by simp only [ED.f,Si,h1,Option.map_some,List.map_cons,List.map_nil,BV.av],h2⟩
 | index t I=>
  simp only [ED.c] at h;obtain ⟨e,l,is,h1,h2⟩:=oO hs h;obtain ⟨y,v,h3,h4,h5⟩:=J_ hs h2;split at h5
  ·obtain rfl:=oN h4;obtain ⟨h6,h7,h8⟩:=aaD h5;refine ⟨_,?_,h8⟩;simp only [ED.f,Fu,h1,h3,toN];rw [if_pos h6];simp only [List.length_map];rw [if_pos h7];rfl
  ·cases h5
 | a X=>
  simp only [ED.c] at h;obtain ⟨cs,x,h1,h2⟩:=FH hs h;exact ⟨_,by simp only [ED.f,Vr,uq,h1,Option.map_some,List.map_cons,List.map_nil,BV.av],h2⟩
 | store r sk off ix V=>
  simp only [ED.c] at h;obtain ⟨is,h1,h2⟩:=agz hs h;obtain ⟨cs,x,is',h3,h4⟩:=jY hs h2;obtain ⟨cs',y,h5,h6⟩:=FH hs h4;obtain ⟨row,z,h7,h8,h9⟩:=VI (g:=fun row=>splice row off (aW cs' y)) (fun e y' k' hk=>by
   obtain ⟨z,g1,g2⟩:=EA hk
   exact ⟨z,g1,g2⟩) h6
  refine ⟨_,?_,h8⟩;simp only [ED.f,mq,uq,h1,ny h3,h5,h7,List.map_cons,List.map_nil,BV.av,h9]
 | len t=>
  simp only [ED.c] at h;obtain ⟨e,l,is,h1,h2⟩:=oO hs h;refine ⟨_,?_,h2⟩;simp only [ED.f,Sl,h1,List.map_cons,List.map_nil,BV.av,aW,enc,List.length_map]
 | app X yt=>
  cases X with
  | none=>
   simp only [ED.c] at h;obtain ⟨e,l,is,h1,h2⟩:=oO hs h;rcases eB h2 with ⟨h3,h4⟩|⟨_,h4⟩
   ·simp only [decide_eq_true_eq] at h3;refine ⟨_,?_,h4⟩;simp only [ED.f,vO,al1,HX.get,h1,List.length_map,List.length_nil,Nat.zero_add];rw [if_pos h3];simp only [List.nil_append,List.map_cons,List.map_nil,BV.av,aW,enc]
   ·cases h4
  | some t=>
   simp only [ED.c] at h;obtain ⟨e,l,is,h1,h2⟩:=oO hs h;obtain ⟨e',l',is',h3,h4⟩:=oO hs h2;obtain ⟨l2,h5,h6⟩:=aay h4;rcases eB h5 with ⟨h7,h8⟩|⟨_,h8⟩
   ·simp only [decide_eq_true_eq] at h7;refine ⟨_,?_,h8⟩;have h9:List.map (aW e) (yG l2)=List.map (aW e') l':=by
     have h6':=(nX l2).symm.trans (h6.trans (nX (e:=e') l'));exact A.s.inj h6'
    have h10:(yG l2).length=l'.length:=by simpa using congrArg List.length h9
    simp only [ED.f,vO,al1,HX.get,h1,h3,Option.map_some,List.length_map];rw [h10] at h7;rw [if_pos h7];simp only [List.map_cons,List.map_nil,BV.av,aW];rw [show enc (.sl e) (l++yG l2) = .s (List.map (aW e) (l++yG l2)) from nX (e:=e) (l++yG l2),List.map_append,h9]
   ·cases h8
 | build Z qs=>
  simp only [ED.c] at h;obtain ⟨ass,y,h1,h2,h3⟩:=aeR hs h;refine ⟨_,?_,h3⟩;simp only [ED.f,Fx,h1,List.map_cons,List.map_nil,BV.av,h2]
 | sli e qs=>
  simp only [ED.c] at h;obtain ⟨l,h1,h2⟩:=aeS hs h;refine ⟨_,?_,h2⟩;simp only [ED.f,Su,h1,List.map_cons,List.map_nil,BV.av,aW,enc]
 | make X e=>
  simp only [ED.c] at h;obtain ⟨v,n,h1,h2,h3⟩:=aeQ hs h;rcases eB h3 with ⟨h4,h5⟩|⟨_,h5⟩
  ·simp only [decide_eq_true_eq] at h4;refine ⟨_,?_,h5⟩;simp only [ED.f,NA,h1,h2];rw [if_pos h4];simp only [List.map_cons,List.map_nil,BV.av,aW,enc];rw [List.map_replicate]
  ·cases h5
 | ext t off n=>
  simp only [ED.c] at h;obtain ⟨cs,x,is',h3,h4⟩:=jY hs h;obtain ⟨cs',z,h7,h8⟩:=VG (cs:=cs) (x:=x) (off:=off) (n:=n) (k:=fun cs' y=>k [.v cs' y []]);rw [h7] at h4;refine ⟨_,?_,h4⟩;simp only [ED.f,nU,ny h3,Option.map_some,List.map_cons,List.map_nil,BV.av,h8]
 | res t L H=>
  simp only [ED.c] at h;obtain ⟨e,l,is,h1,h2⟩:=oO hs h;obtain ⟨lo,h3,h4⟩:=ajl hs h2;obtain ⟨hi,h5,h6⟩:=ajl hs h4;rcases eB h6 with ⟨h7,h8⟩|⟨_,h8⟩
  ·simp only [decide_eq_true_eq] at h7;refine ⟨_,?_,h8⟩;simp only [ED.f,Es,h1,h3,List.length_map,h5];rw [if_pos h7];simp only [List.map_cons,List.map_nil,BV.av,aW,enc,List.map_take,List.map_drop]
  ·cases h8
 | eqA ks X Y ne=>
  simp only [ED.c] at h;obtain ⟨cs,x,h1,h2⟩:=FH hs h;obtain ⟨cs',y,h3,h4⟩:=FH hs h2;obtain ⟨xs,ys,r,h5,h6,h7,h8⟩:=aok h4;refine ⟨_,?_,h8⟩;simp only [ED.f,Sy,h1,h3,h5,h6,h7,List.map_cons,List.map_nil,BV.av,aW,enc];cases ne<;>rfl
 | bytes t=>
  simp only [ED.c] at h;obtain ⟨e,l,is,h1,h2⟩:=oO hs h;split at h2
  ·refine ⟨_,?_,h2⟩;rename_i l0;simp only [ED.f,Z9,h1];have hb:bytesOf (List.map (aW [.i .u8]) l0)=some l0:=bytesOf_map l0;generalize bytesOf (List.map (aW [.i .u8]) l0)=z at hb ⊢;subst hb;simp only [List.map_cons,List.map_nil,BV.av,aW,enc]
  ·cases h2
end
end Go.Fw
namespace Go.Fw
def iW:List (List TY)->Type
 | []=>Unit
 | [p]=>aR p
 | p::p'::ps=>aR p × iW (p'::ps)
def l5:(ps:List (List TY))->iW ps->List (List A)
 | [],_=>[]
 | [p],x=>[aW p x]
 | p::p'::ps,x=>aW p x.1::l5 (p'::ps) x.2
def vT {p:List TY}:{ps:List (List TY)}->aR p->iW ps->iW (p::ps)
 | [],x,_=>x
 | _::_,x,r=>(x,r)
theorem FI {p:List TY} {ps:List (List TY)} (x:aR p) (r:iW ps):l5 (p::ps) (vT x r)=aW p x::l5 ps r:=by
 cases ps<;>simp [l5,vT]
structure TSp where
 sg:aI
 ps:List (List TY)
 rs:List TY
 os:List TY
 j:Nat
 f:iW ps->Option (aR rs × aR os)
def TSp.outs (sp:TSp) (o:aR sp.os):List (List A):=List.replicate sp.j []++[aW sp.os o]
def TSp.Ok (P:Program) (K:FuncId) (sp:TSp):Prop:=∀xs r o,sp.f xs=some (r,o)->Good P K sp.sg (l5 sp.ps xs) (aW sp.rs r) (sp.outs o)
abbrev aH:=FuncId->Option TSp
inductive KT where
 | no
 | mt (r:Nat) (sk:Sk) (off t j:Nat)
 | mp (j:Nat)
def KT.sk:KT->SK
 | .no=>.no
 | .mt r sk off t j=>.mt r sk off 0 t j
 | .mp j=>.mp 0 [] [] j
inductive TE where
 | det (nu:Nat) (e:ED)
 | pick (c:Nat) (X Y:DX)
 | call (nu:Nat) (K:FuncId) (gets:List OY) (k:KT)
structure TO where
 al:Bool
 tks:List Nat
 hd:List Nat
 e:TE
 ds:List Nat
 d:Option Nat
 gd:Option (Nat × Bool)
structure PK where
 t:Nat
 cs:List TY
 al:Bool
inductive TC where
 | skip
 | rg (ops:List TO)
 | seq (a b:TC)
 | cond (X:DX) (a b:TC)
 | block (id:Nat) (b:TC)
 | loop (pk:List PK) (dd:Nat) (b:TC)
 | exit (id:Nat)
 | ret
 | join (pk:List PK) (dd:Nat) (pr:Option (List PK)) (a:TC)
structure WO where
 eff:Bool->Eff
 cb:(Nat->AV)->Option Bool
 ds:List Nat
 d:Option Nat
 gd:Option (Nat × Bool)
inductive WC where
 | skip
 | rg (ops:List WO)
 | seq (a b:WC)
 | cond (X:DX) (a b:WC)
 | block (id:Nat) (b:WC)
 | loop (b:WC)
 | exit (id:Nat)
 | ret
def OpR.wo (o:OpR):WO:=⟨fun b=>(o.S b).eff,o.cb,o.up.map (·.1),o.d,o.gd⟩
def CC.wc:CC->WC
 | .skip=>.skip
 | .rg rs=>.rg (rs.map OpR.wo)
 | .seq a b=>.seq a.wc b.wc
 | .cond X a b=>.cond X a.wc b.wc
 | .block id b=>.block id b.wc
 | .loop b=>.loop b.wc
 | .exit id=>.exit id
 | .ret=>.ret
def xB (rs:List WO) (wl:List Bool) (s:Nat->AV) (o:WO):Bool:=
 match o.gd with
 | none=>true
 | some (j,b)=>wl.getD j false&&(match (match rs[j]? with
   | some o=>o.d
   | none=>none) with
  | some t=>(match iB s t with
   | some c=>c == b
   | none=>false)
  | none=>false)
def lg (P:Program) (rs:List WO):List WO->List Bool->(Nat->AV)->((Nat->AV)->Prop)->Prop
 | [],_,s,K=>K s
 | o::os,wl,s,K=>if xB rs wl s o then ∃b v,o.cb s=some b/\(o.eff b).rel P s v/\lg P rs os (wl++[true]) (ay s (o.ds.zip v)) K
  else lg P rs os (wl++[false]) s K
def W2 (P:Program):WC->(Nat->AV)->(Ex->(Nat->AV)->Prop)->Prop
 | .skip,s,Q=>Q .normal s
 | .rg rs,s,Q=>lg P rs rs [] s (Q .normal)
 | .seq a b,s,Q=>W2 P a s (Zh (fun s=>W2 P b s Q) Q)
 | .cond X a b,s,Q=>∃c,X.get s=some (.bool c)/\if c then W2 P a s Q else W2 P b s Q
 | .block id b,s,Q=>W2 P b s (Ey id Q)
 | .loop b,s,Q=>∃n,rnd (W2 P b) Q n s
 | .exit id,s,Q=>Q (.exit id) s
 | .ret,s,Q=>Q .ret s
theorem al2 (rs:List OpR) (wl:List Bool) (s:Nat->AV) (o:OpR):xB (rs.map OpR.wo) wl s o.wo=jP rs wl s o:=by
 unfold xB jP;show (match o.gd with|none=>true|some (j,b)=>_)=_;cases o.gd with
 | none=>rfl
 | some p=>
  obtain ⟨j,b⟩:=p;simp only [List.getElem?_map,vS];cases rs[j]? with
  | none=>rfl
  | some oj=>rfl
theorem Qw {P:Program} {rs:List OpR}:∀{os:List OpR} {wl:List Bool} {s:Nat->AV} {K:(Nat->AV)->Prop},lg P (rs.map OpR.wo) (os.map OpR.wo) wl s K->qH P rs os wl s K
 | [],_,_,_,h=>h
 | o::os,wl,s,K,h=>by
  simp only [List.map_cons,lg,al2] at h;simp only [qH];split
  ·rename_i hw;rw [if_pos hw] at h;obtain ⟨b,v,h1,h2,h3⟩:=h;exact ⟨b,v,h1,h2,Qw h3⟩
  ·rename_i hw;rw [if_neg hw] at h;exact Qw h
theorem Qx {F F':(Nat->AV)->(Ex->(Nat->AV)->Prop)->Prop} (hF:∀s Q Q',(∀e s,Q e s->Q' e s)->F s Q->F' s Q'):∀{n:Nat} {s:Nat->AV} {Q Q':Ex->(Nat->AV)->Prop},(∀e s,Q e s->Q' e s)->rnd F Q n s->rnd F' Q' n s
 | 0,_,_,_,_,h=>h
 | n+1,s,Q,Q',hQ,h=>by
  simp only [rnd] at h ⊢;refine hF _ _ _ (fun e s h => ?_) h;cases e with
  | normal=>exact Qx hF hQ h
  | exit id=>exact hQ _ _ h
  | ret=>exact hQ _ _ h
theorem FJ {P:Program} {rs:List WO}:∀{os:List WO} {wl:List Bool} {s:Nat->AV} {K K':(Nat->AV)->Prop},(∀s,K s->K' s)->lg P rs os wl s K->lg P rs os wl s K'
 | [],_,_,_,_,hK,h=>hK _ h
 | o::os,wl,s,K,K',hK,h=>by
  simp only [lg] at h ⊢;split
  ·rename_i hw;rw [if_pos hw] at h;obtain ⟨b,v,h1,h2,h3⟩:=h;exact ⟨b,v,h1,h2,FJ hK h3⟩
  ·rename_i hw;rw [if_neg hw] at h;exact FJ hK h
theorem iG {P:Program}:∀{c:WC} {s:Nat->AV} {Q Q':Ex->(Nat->AV)->Prop},(∀e s,Q e s->Q' e s)->W2 P c s Q->W2 P c s Q'
 | .skip,s,_,_,hQ,h=>hQ _ _ h
 | .rg rs,s,_,_,hQ,h=>FJ (fun s=>hQ _ s) h
 | .seq a b,s,_,_,hQ,h=>by
  simp only [W2] at h ⊢;refine iG (fun e s h => ?_) h;cases e with
  | normal=>exact iG hQ h
  | exit id=>exact hQ _ _ h
  | ret=>exact hQ _ _ h
 | .cond X a b,s,_,_,hQ,h=>by
  simp only [W2] at h ⊢;obtain ⟨c,h1,h2⟩:=h;refine ⟨c,h1,?_⟩;cases c
  ·exact iG hQ h2
  ·exact iG hQ h2
 | .block id b,s,_,_,hQ,h=>by
  simp only [W2] at h ⊢;refine iG (fun e s h => ?_) h;cases e with
  | normal=>exact hQ _ _ h
  | exit id'=>
   simp only [Ey] at h ⊢;split
   ·rename_i hi;rw [if_pos hi] at h;exact hQ _ _ h
   ·rename_i hi;rw [if_neg hi] at h;exact hQ _ _ h
  | ret=>exact hQ _ _ h
 | .loop b,s,_,_,hQ,h=>by
  simp only [W2] at h ⊢;obtain ⟨n,h⟩:=h;exact ⟨n,Qx (F:=W2 P b) (F':=W2 P b) (fun s Q Q' hQ h=>iG hQ h) hQ h⟩
 | .exit id,s,_,_,hQ,h=>hQ _ _ h
 | .ret,s,_,_,hQ,h=>hQ _ _ h
theorem yH {P:Program}:∀{c:CC} {s:Nat->AV} {Q:Ex->(Nat->AV)->Prop},W2 P c.wc s Q->W P c s Q
 | .skip,s,_,h=>h
 | .rg rs,s,_,h=>Qw h
 | .seq a b,s,_,h=>by
  simp only [W];refine yH (c:=a) (iG (fun e s h => ?_) h);cases e with
  | normal=>exact yH (c:=b) h
  | exit id=>exact h
  | ret=>exact h
 | .cond X a b,s,_,h=>by
  simp only [W];obtain ⟨c,h1,h2⟩:=h;refine ⟨c,h1,?_⟩;cases c
  ·exact yH (c:=b) h2
  ·exact yH (c:=a) h2
 | .block id b,s,_,h=>yH (c:=b) h
 | .loop b,s,Q,h=>by
  simp only [W];obtain ⟨n,h⟩:=h;exact ⟨n,Qx (F:=W2 P b.wc) (F':=W P b) (fun s Q Q' hQ h=>yH (c:=b) (iG hQ h)) (fun _ _ h=>h) h⟩
 | .exit id,s,_,h=>h
 | .ret,s,_,h=>h
def WC.wrs:WC->List Nat
 | .rg rs=>rs.flatMap (·.ds)
 | .seq a b=>a.wrs++b.wrs
 | .cond _ a b=>a.wrs++b.wrs
 | .block _ b=>b.wrs
 | .loop b=>b.wrs
 | _=>[]
def FrQ (wr:List Nat) (s0:Nat->AV) (Q:Ex->(Nat->AV)->Prop) (e:Ex) (s:Nat->AV):Prop:=Q e s/\∀t,t∉wr->s t=s0 t
theorem ajm {s:Nat->AV} {ds:List Nat} {v:List AV} {t:Nat} (h:t∉ds):ay s (ds.zip v) t=s t:=bn.upds_out (fun hm=>h (bn.zip_mem hm))
theorem BN {P:Program} {rs:List WO} {s0:Nat->AV} {wr:List Nat}:∀{os:List WO} {wl:List Bool} {s:Nat->AV} {K:(Nat->AV)->Prop},(∀t,t∉wr->s t=s0 t)->(∀o,o∈os->∀t,t∈o.ds->t∈wr) ->
  lg P rs os wl s K->lg P rs os wl s (fun s=>K s/\∀t,t∉wr->s t=s0 t)
 | [],_,_,_,hs,_,h=>⟨h,hs⟩
 | o::os,wl,s,K,hs,ho,h=>by
  simp only [lg] at h ⊢;split
  ·rename_i hw;rw [if_pos hw] at h;obtain ⟨b,v,h1,h2,h3⟩:=h;refine ⟨b,v,h1,h2,BN (fun t ht => ?_) (fun o ho'=>ho o (by simp [ho'])) h3⟩;rw [ajm (fun hm=>ht (ho o (by simp) t hm))];exact hs t ht
  ·rename_i hw;rw [if_neg hw] at h;exact BN hs (fun o ho'=>ho o (by simp [ho'])) h
theorem mF {P:Program} {s0:Nat->AV} {wr:List Nat}:∀{c:WC} {s:Nat->AV} {Q:Ex->(Nat->AV)->Prop},(∀t,t∉wr->s t=s0 t)->(∀t,t∈c.wrs->t∈wr)->W2 P c s Q->W2 P c s (FrQ wr s0 Q)
 | .skip,s,_,hs,_,h=>⟨h,hs⟩
 | .rg rs,s,_,hs,hw,h=>BN hs (fun o ho t ht=>hw t (List.mem_flatMap.2 ⟨o,ho,ht⟩)) h
 | .seq a b,s,Q,hs,hw,h=>by
  simp only [W2] at h ⊢
  refine iG (fun e s h => ?_) (mF hs (fun t ht=>hw t (by simp only [WC.wrs,List.mem_append];exact .inl ht)) h)
  cases e with
  | normal=>exact mF h.2 (fun t ht=>hw t (by simp only [WC.wrs,List.mem_append];exact .inr ht)) h.1
  | exit id=>exact h
  | ret=>exact h
 | .cond X a b,s,Q,hs,hw,h=>by
  simp only [W2] at h ⊢
  obtain ⟨c,h1,h2⟩:=h
  refine ⟨c,h1,?_⟩
  cases c
  ·exact mF hs (fun t ht=>hw t (by simp only [WC.wrs,List.mem_append];exact .inr ht)) h2
  ·exact mF hs (fun t ht=>hw t (by simp only [WC.wrs,List.mem_append];exact .inl ht)) h2
 | .block id b,s,Q,hs,hw,h=>by
  simp only [W2] at h ⊢
  refine iG (fun e s h => ?_) (mF hs hw h)
  cases e with
  | normal=>exact h
  | exit id'=>
   obtain ⟨h,hf⟩:=h
   simp only [Ey] at h ⊢
   split
   ·rename_i hi;rw [if_pos hi] at h;exact ⟨h,hf⟩
   ·rename_i hi;rw [if_neg hi] at h;exact ⟨h,hf⟩
  | ret=>exact h
 | .loop b,s,Q,hs,hw,h=>by
  simp only [W2] at h ⊢
  obtain ⟨n,h⟩:=h
  refine ⟨n,?_⟩
  have key:∀n s,(∀t,t∉wr->s t=s0 t)->rnd (W2 P b) Q n s->rnd (W2 P b) (FrQ wr s0 Q) n s:=by
   intro n;induction n with
   | zero=>intro s _ h;exact h
   | succ n ih=>
    intro s hs h;simp only [rnd] at h ⊢;refine iG (fun e s h => ?_) (mF hs hw h);cases e with
    | normal=>exact ih _ h.2 h.1
    | exit id=>exact h
    | ret=>exact h
  exact key n s hs h
 | .exit id,s,_,hs,_,h=>⟨h,hs⟩
 | .ret,s,_,hs,_,h=>⟨h,hs⟩
end Go.Fw
namespace Go.Fw
def VK (p:PK):Type:=match p.al with
 | false=>aR p.cs
 | true=>aR p.cs × List Nat
def FK:List PK->Type
 | []=>Unit
 | [p]=>VK p
 | p::p'::ps=>VK p × FK (p'::ps)
def aaE {p:PK}:{ps:List PK}->VK p->FK ps->FK (p::ps)
 | [],x,_=>x
 | _::_,x,r=>(x,r)
def Zl {B:Type} (p:PK) (y:aR p.cs) (is:List Nat) (k:VK p->Option B):Option B:=
 match p,y,is,k with
 | ⟨_,_,false⟩,y,[],k=>k y
 | ⟨_,_,false⟩,_,_::_,_=>none
 | ⟨_,_,true⟩,y,is,k=>k (y,is)
def uX {B:Type}:(pk:List PK)->TS->(FK pk->Option B)->Option B
 | [],_,k=>k ()
 | p::ps,s,k=>match s p.t with
  | .v cs x is=>nk cs p.cs x fun y=>Zl p y is fun v=>uX ps s fun r=>k (aaE v r)
  | _=>none
def bvP:(p:PK)->VK p->BV
 | ⟨_,cs,false⟩,x=>.v cs x []
 | ⟨_,cs,true⟩,x=>.v cs x.1 x.2
def Om:(pk:List PK)->FK pk->TS->TS
 | [],_,s=>s
 | [p],x,s=>ups s p.t (bvP p x)
 | p::p'::ps,x,s=>ups (Om (p'::ps) x.2 s) p.t (bvP p x.1)
def inM (dd t:Nat):Bool:=dd.testBit t || Nat.ble 1000000 t
def Oo (dd:Nat) (s:TS):TS:=fun t=>bif inM dd t then .n else s t
theorem al3 {p:PK} {ps:List PK} (v:VK p) (r:FK ps) (s:TS):Om (p::ps) (aaE v r) s=ups (Om ps r s) p.t (bvP p v):=by
 cases ps<;>rfl
theorem Sub.ups1 {s:TS} {sA:Nat->AV} (h:Sub s sA) {d:Nat} {v:BV} (hd:sA d=v.av):Sub (Fw.ups s d v) sA:=by
 intro t;rw [aeO];unfold upd;by_cases ht:t=d
 ·rw [if_pos ht,ht];exact .inr hd
 ·rw [if_neg ht];exact h t
theorem ut {B:Type} {a:B} {s:TS} {sA:Nat->AV} (hs:Sub s sA):∀{pk:List PK} {k:FK pk->Option B},uX pk s k=some a->∃x,k x=some a/\∀base,Sub base sA->Sub (Om pk x base) sA
 | [],k,h=>⟨(),h,fun _ hb=>hb⟩
 | p::ps,k,h=>by
  simp only [uX] at h
  split at h
  ·rename_i cs x is hp
   have hA:=(hs p.t).resolve_left (by rw [hp];simp)
   rw [hp] at hA
   obtain ⟨y,h1,h2⟩:=mD h
   have h3:∃v,(uX ps s fun r=>k (aaE v r))=some a/\(BV.v cs x is).av=(bvP p v).av:=by
    obtain ⟨t,pcs,al⟩:=p;cases al with
    | true=>
     simp only [Zl] at h1;exact ⟨_,h1,by simp only [BV.av,bvP];rw [h2]⟩
    | false=>
     cases is with
     | nil=>
      simp only [Zl] at h1;exact ⟨_,h1,by simp only [BV.av,bvP];rw [h2]⟩
     | cons=>simp [Zl] at h1
   obtain ⟨v,h4,h5⟩:=h3
   obtain ⟨r,h6,h7⟩:=ut hs h4
   refine ⟨_,h6,fun base hb => ?_⟩
   rw [al3]
   exact (h7 base hb).ups1 (by rw [hA,h5])
  ·cases h
def it {X B:Type} (F:(X->Option B)->X->Option B):Nat->X->Option B
 | 0,_=>none
 | n+1,x=>F (it F n) x
def BIG:Nat:=18446744073709551616
def aJ {X B:Type} (n:Nat) (F:(X->Option B)->X->Option B) (x:X):Option B:=it F n x
def takeC {B:Type}:List Nat->TS->(TS->Option B)->Option B
 | [],s,k=>k s
 | t::ts,s,k=>match s t with
  | .v cs x _=>takeC ts (ups s t (.v cs x [])) k
  | _=>none
def agD {B:Type} (nu:Nat) (k:List BV->Option B) (vs:List BV):Option B:=bif Nat.ble vs.length nu&&Nat.ble 1 vs.length then k vs else none
def NR {B:Type} (s:TS):(ps:List (List TY))->List OY->(iW ps->Option B)->Option B
 | [],[],k=>k ()
 | p::ps,X::Xs,k=>X.c' s fun cs x=>nk cs p x fun y=>NR s ps Xs fun r=>k (vT y r)
 | _,_,_=>none
def Zm (rs:RS) (cs:List TY) (r:aR cs):BV:=
 match rs with
 | .u=>.n
 | _=>.v cs r []
def KT.c {B:Type} (s:TS) (sp:TSp) (r:aR sp.rs) (o:aR sp.os) (k:List BV->Option B):KT->Option B
 | .no=>k [Zm sp.sg.res sp.rs r]
 | .mt rt sk off t j=>bif Nat.beq j sp.j then oC s t fun _ _ is=>oC s rt fun cs x _=>Qu (fun e row k'=>BM e row off sp.os o k') cs x sk is fun z=>k [Zm sp.sg.res sp.rs r,.v cs z []] else none
 | .mp j=>bif Nat.beq j sp.j then k [Zm sp.sg.res sp.rs r,.v sp.os o []] else none
def TO.c {B:Type} (E:aH) (s:TS) (k:List BV->Option B) (o:TO):Option B:=
 match o.e with
 | .det nu e=>takeC o.tks s fun s1=>e.c s1 (agD nu k)
 | .call nu K gets kt=>takeC o.tks s fun s1=>match E K with
  | some sp=>NR s1 sp.ps gets fun xs=>Option.bind (sp.f xs) fun ro=>kt.c s1 sp ro.1 ro.2 (agD nu k)
  | none=>none
 | .pick c X Y=>match s c with
  | .v [.b] x is=>cond x (X.c' (ups s c (.v [.b] true is)) fun y=>k [.v [y.t] y.x []]) (Y.c' (ups s c (.v [.b] false is)) fun y=>k [.v [y.t] y.x []])
  | _=>none
def gdT (all:List TO) (j:Nat):Option Nat:=
 match all[j]? with
 | some o=>o.d
 | none=>none
def Ka {B:Type} (E:aH) (all:List TO):List TO->List Bool->TS->(TS->Option B)->Option B
 | [],_,s,k=>k s
 | o::os,wl,s,k=>match o.gd with
  | none=>o.c E s fun vs=>Ka E all os (wl++[true]) (upz s o.ds vs) k
  | some (j,b)=>bif wl.getD j false then
    match gdT all j with
    | some t=>match s t with
     | .v [.b] x is=>cond x
      (bif b then o.c E (ups s t (.v [.b] true is)) fun vs=>Ka E all os (wl++[true]) (upz (ups s t (.v [.b] true is)) o.ds vs) k else Ka E all os (wl++[false]) (ups s t (.v [.b] true is)) k)
      (bif b then Ka E all os (wl++[false]) (ups s t (.v [.b] false is)) k else o.c E (ups s t (.v [.b] false is)) fun vs=>Ka E all os (wl++[true]) (upz (ups s t (.v [.b] false is)) o.ds vs) k)
     | _=>none
    | none=>none
   else Ka E all os (wl++[false]) s k
def TC.run {B:Type} (n:Nat) (E:aH):TC->TS->(Ex->TS->Option B)->Option B
 | .skip,s,k=>k .normal s
 | .rg ops,s,k=>Ka E ops ops [] s (k .normal)
 | .seq a b,s,k=>a.run n E s fun e s'=>match e with
  | .normal=>b.run n E s' k
  | .exit id=>k (.exit id) s'
  | .ret=>k .ret s'
 | .cond X a b,s,k=>match X with
  | .t t=>match s t with
   | .v [.b] x is=>_root_.cond x (a.run n E (ups s t (.v [.b] true is)) k) (b.run n E (ups s t (.v [.b] false is)) k)
   | _=>none
  | .c v=>match v with
   | .bool x=>_root_.cond x (a.run n E s k) (b.run n E s k)
   | _=>none
 | .block id b,s,k=>b.run n E s fun e s'=>match e with
  | .normal=>k .normal s'
  | .exit id'=>bif Nat.beq id' id then k .normal s' else k (.exit id') s'
  | .ret=>k .ret s'
 | .loop pk dd b,s,k=>uX pk s fun x=>aJ n (fun self x=>b.run n E (Om pk x (Oo dd s)) fun e s'=>match e with
  | .normal=>uX pk s' self
  | .exit id=>k (.exit id) s'
  | .ret=>k .ret s') x
 | .exit id,s,k=>k (.exit id) s
 | .ret,s,k=>k .ret s
 | .join pk dd none a,s,k=>Option.bind (a.run n E s fun e s'=>match e with
  | .normal=>uX pk s' some
  | _=>none) fun x=>k .normal (Om pk x (Oo dd s))
 | .join pk dd (some pr) a,s,k=>Option.bind (a.run n E s fun e s'=>match e with
  | .normal=>uX pk s' fun x=>some (Sum.inl x)
  | .ret=>uX pr s' fun x=>some (Sum.inr x)
  | _=>none) fun y=>match y with
  | .inl x=>k .normal (Om pk x (Oo dd s))
  | .inr x=>k .ret (Om pr x (Oo dd s))
def VL:List Nat->Eff->Eff
 | [],E=>E
 | t::ts,E=>(VL ts E).pre (NF t)
def TO.weff (E:aH) (o:TO) (b:Bool):Eff:=
 match o.e with
 | .det nu e=>VL o.tks ((Eff.det e.f).cap nu)
 | .call nu K gets kt=>match E K with
  | some sp=>VL o.tks ((Eff.call K sp.sg (fun s=>kv s (gets.map OY.f)) fun res outs s=>kt.sk.post sp.sg.res res outs s).cap nu)
  | none=>.det fun _=>none
 | .pick c X Y=>(FE 0 c X Y b).eff
def TO.wcb (o:TO):(Nat->AV)->Option Bool:=
 match o.e with
 | .pick c _ _=>fun s=>iB s c
 | _=>fun _=>some true
def TO.wo (E:aH) (o:TO):WO:=⟨o.weff E,o.wcb,o.ds,o.d,o.gd⟩
def TC.wc (E:aH):TC->WC
 | .skip=>.skip
 | .rg ops=>.rg (ops.map (TO.wo E))
 | .seq a b=>.seq (a.wc E) (b.wc E)
 | .cond X a b=>.cond X (a.wc E) (b.wc E)
 | .block id b=>.block id (b.wc E)
 | .loop _ _ b=>.loop (b.wc E)
 | .exit id=>.exit id
 | .ret=>.ret
 | .join _ _ _ a=>a.wc E
def TC.wrs:TC->List Nat
 | .rg ops=>ops.flatMap (·.ds)
 | .seq a b=>a.wrs++b.wrs
 | .cond _ a b=>a.wrs++b.wrs
 | .block _ b=>b.wrs
 | .loop _ _ b=>b.wrs
 | .join _ _ _ a=>a.wrs
 | _=>[]
def TC.okd:TC->Bool
 | .seq a b=>a.okd&&b.okd
 | .cond _ a b=>a.okd&&b.okd
 | .block _ b=>b.okd
 | .loop _ dd b=>b.okd&&b.wrs.all fun t=>inM dd t
 | .join _ dd _ a=>a.okd&&a.wrs.all fun t=>inM dd t
 | _=>true
theorem qJ (E:aH):∀c:TC,(c.wc E).wrs=c.wrs
 | .skip=>rfl
 | .rg ops=>by simp only [TC.wc,WC.wrs,TC.wrs,List.flatMap_map];rfl
 | .seq a b=>by simp only [TC.wc,WC.wrs,TC.wrs,qJ E a,qJ E b]
 | .cond X a b=>by simp only [TC.wc,WC.wrs,TC.wrs,qJ E a,qJ E b]
 | .block id b=>qJ E b
 | .loop _ _ b=>qJ E b
 | .exit id=>rfl
 | .ret=>rfl
 | .join _ _ _ a=>qJ E a
end Go.Fw
namespace Go.Fw
section
variable {B:Type} {s:TS} {sA:Nat->AV} {a:B} {P:Program} {E:aH}
theorem aeU {nu:Nat} {k:List BV->Option B} {vs:List BV} (h:agD nu k vs=some a):vs.length<=nu/\0<vs.length/\k vs=some a:=by
 unfold agD at h;cases hb:(Nat.ble vs.length nu&&Nat.ble 1 vs.length) with
 | true=>
  rw [hb] at h;simp only [aP] at hb;exact ⟨Nat.le_of_ble_eq_true hb.1,Nat.le_of_ble_eq_true hb.2,h⟩
 | false=>rw [hb] at h;cases h
theorem aaF (hs:Sub s sA):∀{ps:List (List TY)} {Xs:List OY} {k:iW ps->Option B},NR s ps Xs k=some a->∃xs,kv sA (Xs.map OY.f)=some (l5 ps xs)/\k xs=some a
 | [],[],k,h=>⟨(),rfl,h⟩
 | [],_::_,_,h=>by simp [NR] at h
 | _::_,[],_,h=>by simp [NR] at h
 | p::ps,X::Xs,k,h=>by
  simp only [NR] at h;obtain ⟨cs,x,h1,h2⟩:=FH hs h;obtain ⟨y,h3,h4⟩:=mD h2;obtain ⟨xs,h5,h6⟩:=aaF hs h3;refine ⟨vT y xs,?_,h6⟩;simp only [List.map_cons,kv,h1,h5];rw [FI,h4]
theorem apI (cs:List TY) (x:aR cs) (is:List Nat):(BV.v cs x is).av = .v (aW cs x) is:=rfl
theorem Qy (rs:RS) (cs:List TY) (r:aR cs):(Zm rs cs r).av=gy (aW cs r) rs:=by
 cases rs<;>rfl
theorem aeV (sp:TSp) (o:aR sp.os) {j:Nat} (h:Nat.beq j sp.j=true):(sp.outs o)[j]?=some (aW sp.os o):=by
 have:=Nat.eq_of_beq_eq_true h;subst this;simp [TSp.outs]
theorem apJ (hs:Sub s sA) {sp:TSp} {r:aR sp.rs} {o:aR sp.os} {kt:KT} {k:List BV->Option B} (h:kt.c s sp r o k=some a) :
  ∃vs,kt.sk.post sp.sg.res (aW sp.rs r) (sp.outs o) sA=some (vs.map BV.av)/\k vs=some a:=by
 cases kt with
 | no=>
  refine ⟨_,?_,h⟩;simp only [KT.sk,SK.post,List.map_cons,List.map_nil,Qy]
 | mt rt sk off t j=>
  simp only [KT.c] at h;rcases eB h with ⟨h1,h2⟩|⟨_,h2⟩
  ·obtain ⟨cs0,x0,is,h3,h4⟩:=jY hs h2;obtain ⟨cs,x,is',h5,h6⟩:=jY hs h4;obtain ⟨row,z,h7,h8,h9⟩:=VI (g:=fun row=>splice row off (aW sp.os o)) (fun e y' k' hk=>by
    obtain ⟨z,g1,g2⟩:=EA hk
    exact ⟨z,g1,g2⟩) h6
   refine ⟨_,?_,h8⟩;simp only [KT.sk,SK.post,agh,h3,ny h5,aeV sp o h1,h7,List.map_cons,List.map_nil,Qy,apI,h9]
  ·cases h2
 | mp j=>
  simp only [KT.c] at h;rcases eB h with ⟨h1,h2⟩|⟨_,h2⟩
  ·refine ⟨_,?_,h2⟩;simp only [KT.sk,SK.post,aeV sp o h1,List.map_cons,List.map_nil,Qy,apI]
  ·cases h2
theorem XF {ts:List Nat} {k:TS->Option B}:∀{s:TS} {sA:Nat->AV},Sub s sA->takeC ts s k=some a->∃s1 sA1,Sub s1 sA1/\k s1=some a/\∀E0 v,Eff.rel P E0 sA1 v->(VL ts E0).rel P sA v:=by
 induction ts with
 | nil=>intro s sA hs h;exact ⟨s,sA,hs,h,fun _ _ h=>h⟩
 | cons t ts ih=>
  intro s sA hs h;simp only [takeC] at h;split at h
  ·rename_i cs x is ht;have hA:=(hs t).resolve_left (by rw [ht];simp);rw [ht] at hA;have hs1:=hs.ups t (.v cs x []);obtain ⟨s1,sA1,h1,h2,h3⟩:=ih hs1 h;refine ⟨s1,sA1,h1,h2,fun E0 v hr => ?_⟩;have h4:=h3 E0 v hr;have htk:NF t sA=some (upd sA t (BV.v cs x []).av):=by
    simp only [NF,fO,hA,BV.av]
   simp only [VL];generalize VL ts E0=E1 at h4;cases E1 with
   | det f=>simp only [Eff.pre,Eff.rel,htk] at h4 ⊢;exact h4
   | call K sg args post=>
    simp only [Eff.pre,Eff.rel,htk] at h4 ⊢;exact h4
  ·cases h
theorem XG {t:Nat} {x:Bool} {is:List Nat} (h:sA t=(BV.v [.b] x is).av):iB sA t=some x:=by
 simp only [iB,h,BV.av,aW,enc]
theorem apK (hE:∀K sp,E K=some sp->sp.Ok P K) (hs:Sub s sA) {o:TO} {k:List BV->Option B} (h:o.c E s k=some a) :
  ∃b vs,o.wcb sA=some b/\(o.weff E b).rel P sA (vs.map BV.av)/\k vs=some a:=by
 unfold TO.c at h;split at h
 ·rename_i nu e he;obtain ⟨s1,sA1,h1,h2,h3⟩:=XF (P:=P) hs h;obtain ⟨vs,h4,h5⟩:=apE h1 h2;obtain ⟨h6,h7,h8⟩:=aeU h5;refine ⟨true,vs,by unfold TO.wcb;rw [he],?_,h8⟩;unfold TO.weff;rw [he];refine h3 _ _ ?_;simp only [Eff.cap,Eff.rel,h4,List.length_map];rw [if_pos ⟨h6,h7⟩]
 ·rename_i nu K gets kt he;obtain ⟨s1,sA1,h1,h2,h3⟩:=XF (P:=P) hs h;split at h2
  ·rename_i sp hsp;obtain ⟨xs,h4,h5⟩:=aaF h1 h2;simp only [Option.bind_eq_some_iff] at h5;obtain ⟨ro,h6,h7⟩:=h5;obtain ⟨vs,h8,h9⟩:=apJ h1 h7;obtain ⟨g6,g7,g8⟩:=aeU h9;refine ⟨true,vs,by unfold TO.wcb;rw [he],?_,g8⟩;unfold TO.weff;rw [he];simp only [hsp];refine h3 _ _ ?_;simp only [Eff.cap,Eff.rel];refine ⟨_,_,_,h4,hE K sp hsp xs ro.1 ro.2 h6,?_⟩;simp only [h8,List.length_map];rw [if_pos ⟨g6,g7⟩]
  ·cases h2
 ·rename_i c X Y he;split at h
  ·rename_i x is hc;have hA:=(hs c).resolve_left (by rw [hc];simp);rw [hc] at hA;have hb:=XG hA;cases x with
   | true=>
    have hs1:Sub (ups s c (.v [.b] true is)) sA:=hs.ups1 hA;simp only [af] at h;obtain ⟨y,v,h1,h2,h3⟩:=J_ hs1 h;refine ⟨true,_,by unfold TO.wcb;rw [he];exact hb,?_,h3⟩;unfold TO.weff;rw [he];simp only [FE,Stp.set,Eff.rel,hb,if_true,h1,List.map_cons,List.map_nil,BV.av];rw [show aW [y.t] y.x=[enc y.t y.x] from by simp only [aW],h2.1]
   | false=>
    have hs1:Sub (ups s c (.v [.b] false is)) sA:=hs.ups1 hA;simp only [ak] at h;obtain ⟨y,v,h1,h2,h3⟩:=J_ hs1 h;refine ⟨false,_,by unfold TO.wcb;rw [he];exact hb,?_,h3⟩;unfold TO.weff;rw [he];simp only [FE,Stp.set,Eff.rel,hb,if_true,Bool.false_eq_true,if_false,h1,List.map_cons,List.map_nil,BV.av];rw [show aW [y.t] y.x=[enc y.t y.x] from by simp only [aW],h2.1]
  ·cases h
theorem aaG (hE:∀K sp,E K=some sp->sp.Ok P K) {all:List TO} {k:TS->Option B} {Q:(Nat->AV)->Prop} (hk:∀s sA,Sub s sA->k s=some a->Q sA):∀{os:List TO} {wl:List Bool} {s:TS} {sA:Nat->AV},Sub s sA ->
  Ka E all os wl s k=some a->lg P (all.map (TO.wo E)) (os.map (TO.wo E)) wl sA Q
 | [],wl,s,sA,hs,h=>hk _ _ hs h
 | o::os,wl,s,sA,hs,h=>by
  have exec:∀s,Sub s sA->(o.c E s fun vs=>Ka E all os (wl++[true]) (upz s o.ds vs) k)=some a->∃b v,(o.wo E).cb sA=some b/\((o.wo E).eff b).rel P sA v/\lg P (all.map (TO.wo E)) (os.map (TO.wo E)) (wl++[true]) (ay sA ((o.wo E).ds.zip v)) Q:=by
   intro s hs h;obtain ⟨b,vs,h1,h2,h3⟩:=apK hE hs h;exact ⟨b,_,h1,h2,aaG hE hk (hs.upz o.ds vs) h3⟩
  have skip:∀s,Sub s sA->Ka E all os (wl++[false]) s k=some a->lg P (all.map (TO.wo E)) (os.map (TO.wo E)) (wl++[false]) sA Q:=fun s hs h=>aaG hE hk hs h
  simp only [List.map_cons,lg]
  simp only [Ka] at h
  cases hg:o.gd with
  | none=>
   rw [hg] at h
   have hw:xB (all.map (TO.wo E)) wl sA (o.wo E)=true:=by unfold xB;show (match o.gd with|none=>true|some (j,b)=>_)=_;rw [hg]
   rw [if_pos hw]
   exact exec s hs h
  | some p=>
   obtain ⟨j,b⟩:=p
   rw [hg] at h
   simp only at h
   have hw0:xB (all.map (TO.wo E)) wl sA (o.wo E)=(wl.getD j false&&(match gdT all j with
   | some t=>(match iB sA t with
    | some c=>c == b
    | none=>false)
   | none=>false)):=by
    unfold xB
    show (match o.gd with|none=>true|some (j,b)=>_)=_
    rw [hg]
    simp only [List.getElem?_map,gdT]
    cases all[j]? with
    | none=>rfl
    | some oj=>rfl
   rcases eB h with ⟨h1,h2⟩|⟨h1,h2⟩
   ·split at h2
    ·rename_i t ht
     split at h2
     ·rename_i x is hx
      have hA:=(hs t).resolve_left (by rw [hx];simp)
      rw [hx] at hA
      have hb:=XG hA
      have hw1:xB (all.map (TO.wo E)) wl sA (o.wo E)=((show Bool from x) == b):=by
       rw [hw0,h1,ht]
       show (true&&(match iB sA t with|some c=>c == b|none=>false))=_
       rw [hb];rfl
      rw [hw1]
      cases x with
      | true=>
       have hs1:Sub (ups s t (.v [.b] true is)) sA:=hs.ups1 hA
       cases b with
       | true=>exact (if_pos rfl).symm▸exec _ hs1 h2
       | false=>exact skip _ hs1 h2
      | false=>
       have hs1:Sub (ups s t (.v [.b] false is)) sA:=hs.ups1 hA
       cases b with
       | true=>exact skip _ hs1 h2
       | false=>exact (if_pos rfl).symm▸exec _ hs1 h2
     ·cases h2
    ·cases h2
   ·have hw1:xB (all.map (TO.wo E)) wl sA (o.wo E)=false:=by rw [hw0,h1];rfl
    rw [hw1]
    exact skip _ hs h2
end
theorem qK {P:Program} {N0:Nat} {E:aH} (hE:∀K sp,E K=some sp->sp.Ok P K):∀{c:TC} {B:Type} {a:B} {s:TS} {sA:Nat->AV} {k:Ex->TS->Option B} {Q:Ex->(Nat->AV)->Prop},c.okd=true->Sub s sA->c.run N0 E s k=some a ->
  (∀e s sA,Sub s sA->k e s=some a->Q e sA)->W2 P (c.wc E) sA Q
 | .skip,B,a,s,sA,k,Q,_,hs,h,hk=>hk _ _ _ hs h
 | .rg ops,B,a,s,sA,k,Q,_,hs,h,hk=>aaG hE (fun s sA hs h=>hk _ _ _ hs h) hs h
 | .seq x y,B,a,s,sA,k,Q,hd,hs,h,hk=>by
  simp only [TC.okd,aP] at hd
  simp only [TC.run] at h
  simp only [TC.wc,W2]
  refine qK hE hd.1 hs h fun e s' sA' hs' h' => ?_
  cases e with
  | normal=>exact qK hE hd.2 hs' h' hk
  | exit id=>exact hk _ _ _ hs' h'
  | ret=>exact hk _ _ _ hs' h'
 | .cond X x y,B,a,s,sA,k,Q,hd,hs,h,hk=>by
  simp only [TC.okd,aP] at hd
  simp only [TC.wc,W2]
  cases X with
  | t t=>
   simp only [TC.run] at h
   split at h
   ·rename_i b is ht
    have hA:=(hs t).resolve_left (by rw [ht];simp)
    rw [ht] at hA
    refine ⟨b,by simp only [DX.get,hA,BV.av,aW,enc],?_⟩
    cases b with
    | true=>exact qK hE hd.1 (hs.ups1 hA) h hk
    | false=>exact qK hE hd.2 (hs.ups1 hA) h hk
   ·cases h
  | c v=>
   simp only [TC.run] at h
   split at h
   ·rename_i b
    refine ⟨b,rfl,?_⟩
    cases b with
    | true=>exact qK hE hd.1 hs h hk
    | false=>exact qK hE hd.2 hs h hk
   ·cases h
 | .block id x,B,a,s,sA,k,Q,hd,hs,h,hk=>by
  simp only [TC.okd] at hd
  simp only [TC.run] at h
  simp only [TC.wc,W2]
  refine qK hE hd hs h fun e s' sA' hs' h' => ?_
  cases e with
  | normal=>exact hk _ _ _ hs' h'
  | exit id'=>
   simp only at h'
   simp only [Ey]
   rcases eB h' with ⟨h1,h2⟩|⟨h1,h2⟩
   ·rw [if_pos (Nat.eq_of_beq_eq_true h1)];exact hk _ _ _ hs' h2
   ·rw [if_neg (fun he=>by subst he;simp at h1)];exact hk _ _ _ hs' h2
  | ret=>exact hk _ _ _ hs' h'
 | .loop pk dd x,B,a,s,sA,k,Q,hd,hs,h,hk=>by
  simp only [TC.okd,aP,List.all_eq_true] at hd
  simp only [TC.run] at h
  simp only [TC.wc,W2]
  obtain ⟨x0,h1,h2⟩:=ut hs h
  refine ⟨N0,?_⟩
  have base:∀sA':Nat->AV,(∀t,t∉x.wrs->sA' t=sA t)->Sub (Oo dd s) sA':=by
   intro sA' hf t;unfold Oo;cases ht:inM dd t with
   | true=>exact .inl rfl
   | false=>
    rcases hs t with h3|h3
    ·exact .inl h3
    ·right;rw [hf t (fun hm=>by rw [hd.2 t hm] at ht;cases ht),h3];rfl
  have key:∀n x0 sA',(∀t,t∉x.wrs->sA' t=sA t)->Sub (Om pk x0 (Oo dd s)) sA'->it (fun self y=>x.run N0 E (Om pk y (Oo dd s)) fun e s'=>match e with
    | .normal=>uX pk s' self
    | .exit id=>k (.exit id) s'
    | .ret=>k .ret s') n x0=some a->rnd (W2 P (x.wc E)) Q n sA':=by
   intro n
   induction n with
   | zero=>intro x0 sA' _ _ h;simp [it] at h
   | succ n ih=>
    intro x0 sA' hf hs' h
    simp only [it] at h
    simp only [rnd]
    have:=qK hE (Q:=fun e sB=>(∀t,t∉x.wrs->sB t=sA t)->Zh (rnd (W2 P (x.wc E)) Q n) Q e sB) hd.1 hs' h fun e s'' sB hs'' h' hfb => ?_
    ·refine iG (fun e sB hB => ?_) (mF (s0:=sA) (wr:=x.wrs) hf (fun t ht=>by rwa [qJ] at ht) this)
     exact hB.1 hB.2
    ·cases e with
     | normal=>
      obtain ⟨y,h3,h4⟩:=ut hs'' h'
      exact ih y sB hfb (h4 _ (base sB hfb)) h3
     | exit id=>exact hk _ _ _ hs'' h'
     | ret=>exact hk _ _ _ hs'' h'
  exact key N0 x0 sA (fun _ _=>rfl) (h2 _ (base sA fun _ _=>rfl)) h1
 | .exit id,B,a,s,sA,k,Q,_,hs,h,hk=>hk _ _ _ hs h
 | .ret,B,a,s,sA,k,Q,_,hs,h,hk=>hk _ _ _ hs h
 | .join pk dd pr x,B,a,s,sA,k,Q,hd,hs,h,hk=>by
  simp only [TC.okd,aP,List.all_eq_true] at hd
  simp only [TC.wc]
  have base:∀sA':Nat->AV,(∀t,t∉x.wrs->sA' t=sA t)->Sub (Oo dd s) sA':=by
   intro sA' hf t
   unfold Oo
   cases ht:inM dd t with
   | true=>exact .inl rfl
   | false=>
    rcases hs t with h3|h3
    ·exact .inl h3
    ·right
     rw [hf t (fun hm=>by rw [hd.2 t hm] at ht;cases ht),h3];rfl
  have fr:∀{Q':Ex->(Nat->AV)->Prop},W2 P (x.wc E) sA Q'->W2 P (x.wc E) sA (FrQ x.wrs sA Q'):=fun hw=>mF (fun _ _=>rfl) (fun t ht=>by rwa [qJ] at ht) hw
  cases pr with
  | none=>
   simp only [TC.run,Option.bind_eq_some_iff] at h
   obtain ⟨x0,h1,h2⟩:=h
   have:=qK hE (Q:=fun e sB=>(∀t,t∉x.wrs->sB t=sA t)->Q e sB) hd.1 hs h1 fun e s'' sB hs'' h' hfb => ?_
   ·exact iG (fun e sB hB=>hB.1 hB.2) (fr this)
   ·cases e with
    | normal=>
     obtain ⟨y,h3,h4⟩:=ut hs'' h'
     cases h3
     exact hk _ _ _ (h4 _ (base sB hfb)) h2
    | exit id=>cases h'
    | ret=>cases h'
  | some pr=>
   simp only [TC.run,Option.bind_eq_some_iff] at h
   obtain ⟨x0,h1,h2⟩:=h
   have:=qK hE (Q:=fun e sB=>(∀t,t∉x.wrs->sB t=sA t)->Q e sB) hd.1 hs h1 fun e s'' sB hs'' h' hfb => ?_
   ·exact iG (fun e sB hB=>hB.1 hB.2) (fr this)
   ·cases e with
    | normal=>
     obtain ⟨y,h3,h4⟩:=ut hs'' h'
     cases h3
     exact hk _ _ _ (h4 _ (base sB hfb)) h2
    | exit id=>cases h'
    | ret=>
     obtain ⟨y,h3,h4⟩:=ut hs'' h'
     cases h3
     exact hk _ _ _ (h4 _ (base sB hfb)) h2
end Go.Fw
namespace Go.Fw
def inT:(ps:List (List TY))->iW ps->Nat->TS
 | [],_,_=>fun _=>.n
 | [p],x,i=>ups (fun _=>.n) i (.v p x [])
 | p::p'::ps,x,i=>ups (inT (p'::ps) x.2 (i+1)) i (.v p x.1 [])
def aaH:(cs:List TY)->aR cs->aR cs->aR cs
 | [],_,_=>()
 | c::cs,x,y=>lZ (match c,dV x,dV y with
  | .sl _,_,r=>r
  | .b,v,_=>v
  | .i _,v,_=>v
  | .s,v,_=>v) (aaH cs (gK x) (gK y))
theorem Qz:∀{cs:List TY} {x y:aR cs},aW cs (aaH cs x y)=BL (aW cs x) (aW cs y)
 | [],_,_=>rfl
 | c::cs,x,y=>by
  simp only [aaH];rw [lc,cZ x,cZ y];cases c with
  | sl e=>
   rw [nX (dV x)];simp only [BL];rw [Qz]
  | _=>
   simp only [enc,BL];rw [Qz]
def QA:{cs cs':List TY}->aR cs->aR cs'->aR (cs++cs')
 | [],_,_,y=>y
 | _::_,_,x,y=>lZ (dV x) (QA (gK x) y)
theorem QB:∀{cs cs':List TY} {x:aR cs} {y:aR cs'},aW (cs++cs') (QA x y)=aW cs x++aW cs' y
 | [],_,_,_=>rfl
 | c::cs,cs',x,y=>by
  rw [cZ x];refine (lc (dV x) (QA (gK x) y)).trans ?_;rw [QB];rfl
def VM {B:Type} (s:TS):List Nat->((cs:List TY)->aR cs->Option B)->Option B
 | [],k=>k [] ()
 | [t],k=>oC s t fun cs x _=>k cs x
 | t::t'::ts,k=>oC s t fun cs x _=>VM s (t'::ts) fun cs' y=>k (cs++cs') (QA x y)
theorem aeW {B:Type} {a:B} {s:TS} {sA:Nat->AV} (hs:Sub s sA):∀{ts:List Nat} {k:(cs:List TY)->aR cs->Option B},VM s ts k=some a->∃cs x,kF sA ts=some (aW cs x)/\k cs x=some a
 | [],k,h=>⟨[],(),rfl,h⟩
 | [t],k,h=>by
  simp only [VM] at h;obtain ⟨cs,x,is,h1,h2⟩:=jY hs h;exact ⟨cs,x,by simp only [kF,ny h1,List.append_nil],h2⟩
 | t::t'::ts,k,h=>by
  simp only [VM] at h;obtain ⟨cs,x,is,h1,h2⟩:=jY hs h;obtain ⟨cs',y,h3,h4⟩:=aeW hs h2;refine ⟨cs++cs',QA x y,?_,h4⟩;rw [QB];simp only [kF,ny h1] at h3 ⊢;rw [h3]
def QC {B:Type}:(ps:List (List TY))->iW ps->Nat->((cs:List TY)->aR cs->Option B)->Option B
 | [],_,_,_=>none
 | [p],x,0,k=>k p x
 | [_],_,_+1,_=>none
 | p::_::_,x,0,k=>k p x.1
 | _::p'::ps,x,n+1,k=>QC (p'::ps) x.2 n k
theorem aeX {B:Type} {a:B}:∀{ps:List (List TY)} {x:iW ps} {n:Nat} {k:(cs:List TY)->aR cs->Option B},QC ps x n k=some a->∃cs y,(l5 ps x)[n]?=some (aW cs y)/\k cs y=some a
 | [],_,_,_,h=>by simp [QC] at h
 | [p],x,0,k,h=>⟨p,x,rfl,h⟩
 | [_],_,_+1,_,h=>by simp [QC] at h
 | p::_::_,x,0,k,h=>⟨p,x.1,rfl,h⟩
 | p::p'::ps,x,n+1,k,h=>by
  simp only [QC] at h;obtain ⟨cs,y,h1,h2⟩:=aeX h;exact ⟨cs,y,by simpa [l5] using h1,h2⟩
def ouC {B:Type} (ps:List (List TY)) (xs:iW ps) (s:TS) (os:List TY) (k:aR os->Option B):Ou->Option B
 | .no=>nk [] os () k
 | .mp j=>oC s j fun cs x _=>nk cs os x k
 | .mt j u off=>oC s u fun cs x _=>aax cs x off os.length fun cs' y=>nk cs' os y fun y=>QC ps xs j fun cs2 z=>nk cs2 os z fun z=>k (aaH os z y)
theorem apL {B:Type} {a:B} {s:TS} {sA:Nat->AV} (hs:Sub s sA) {ps:List (List TY)} {xs:iW ps} {os:List TY} {k:aR os->Option B} {ou:Ou} (h:ouC ps xs s os k ou=some a):∃o,uW (l5 ps xs) sA ou=some (aW os o)/\k o=some a:=by
 cases ou with
 | no=>
  simp only [ouC] at h;obtain ⟨y,h1,h2⟩:=mD h;exact ⟨y,by simp only [uW,h2];rfl,h1⟩
 | mp j=>
  simp only [ouC] at h;obtain ⟨cs,x,is,h1,h2⟩:=jY hs h;obtain ⟨y,h3,h4⟩:=mD h2;exact ⟨y,by simp only [uW,ny h1,h4],h3⟩
 | mt j u off=>
  simp only [ouC] at h;obtain ⟨cs,x,is,h1,h2⟩:=jY hs h;obtain ⟨cs',y,h3,h4⟩:=VG (cs:=cs) (x:=x) (off:=off) (n:=os.length) (k:=fun cs' y=>nk cs' os y fun y=>QC ps xs j fun cs2 z=>nk cs2 os z fun z=>k (aaH os z y));rw [h3] at h2;obtain ⟨y',h5,h6⟩:=mD h2;obtain ⟨cs2,z,h7,h8⟩:=aeX h5;obtain ⟨z',h9,h10⟩:=mD h8;refine ⟨_,?_,h9⟩;have hl:(aW cs2 z).length=os.length:=by rw [<-h10,Qt]
  simp only [uW,ny h1,h7,hl];rw [Qz,h6,h10,h4]
theorem aeZ:∀(ps:List (List TY)) (xs:iW ps) (i:Nat) (sA:Nat->AV),(∀k as,(l5 ps xs)[k]?=some as->sA (i+k) = .v as [])->Sub (inT ps xs i) sA
 | [],_,_,_,_=>fun _=>.inl rfl
 | [p],x,i,sA,h=>by
  refine Sub.ups1 (fun _=>.inl rfl) ?_;exact h 0 _ rfl
 | p::p'::ps,x,i,sA,h=>by
  refine Sub.ups1 (aeZ (p'::ps) x.2 (i+1) sA fun k as hk => ?_) ?_
  ·rw [show i+1+k=i+(k+1) from by omega];exact h (k+1) as (by simpa [l5] using hk)
  ·exact h 0 _ rfl
def aC (n:Nat) (E:aH) (c:TC) (ps:List (List TY)) (rs os:List TY) (regs:List Nat) (ou:Ou) (xs:iW ps):Option (aR rs × aR os):=
 c.run n E (inT ps xs 0) fun e s=>match e with
  | .exit _=>none
  | _=>VM s regs fun cs x=>nk cs rs x fun r=>ouC ps xs s os (fun o=>some (r,o)) ou
def aM (P:Program) (E:aH) (K:FuncId) (sg:aI) (h:HT) (ou:Ou):Option (WC × List Nat):=(agw P (fun K=>(E K).map (·.sg)) K sg h ou).map fun p=>(p.1.wc,p.2)
theorem aN {P:Program} {E:aH} (hE:∀K sp,E K=some sp->sp.Ok P K) {K:FuncId} {sg:aI} {h:HT} {ou:Ou} {c:TC} {ps:List (List TY)} {rs os:List TY} {regs:List Nat} {n:Nat} (hc:aM P E K sg h ou=some (c.wc E,regs)) (hd:c.okd=true) :
  TSp.Ok P K ⟨sg,ps,rs,os,ou.j,aC n E c ps rs os regs ou⟩:=by
 intro xs r o hf;simp only at hf r o ⊢;simp only [aM,Option.map_eq_some_iff,Prod.mk.injEq] at hc;obtain ⟨⟨cc,regs'⟩,hck,hwc,hrg⟩:=hc;simp only at hwc hrg;subst hrg;refine aq9 hck (yH (c:=cc) ?_);rw [hwc];refine qK hE hd (aeZ ps xs 0 _ fun k as hk=>by simp only [Nat.zero_add,inS,hk]) hf fun e s sA hs hk => ?_
 have main:(VM s regs' fun cs x=>nk cs rs x fun r=>ouC ps xs s os (fun o=>some (r,o)) ou)=some (r,o)->kF sA regs'=some (aW rs r)/\uW (l5 ps xs) sA ou=some (aW os o):=by
  intro h;obtain ⟨cs,x,h1,h2⟩:=aeW hs h;obtain ⟨y,h3,h4⟩:=mD h2;obtain ⟨o',h5,h6⟩:=apL hs h3;cases h6;exact ⟨by rw [h1,h4],h5⟩
 cases e with
 | normal=>exact ⟨.inl rfl,main hk⟩
 | exit id=>cases hk
 | ret=>exact ⟨.inr rfl,main hk⟩
def o1 (d:Nat) (e:ED):TO:=⟨false,[],[],.det 1 e,[d],some d,none⟩
def TC.ht (N:Nat):TC->HT
 | .rg ops=>.rg (ops.map fun o=>⟨o.al,o.tks,o.hd⟩)
 | .seq a b=>.two (a.ht N) (b.ht N)
 | .cond _ a b=>.two (a.ht N) (b.ht N)
 | .block _ b=>.one (b.ht N)
 | .loop pk dd b=>.loop ((List.range N).filter fun t=>dd.testBit t && !pk.any fun p=>Nat.beq p.t t) (b.ht N)
 | .join _ _ _ a=>a.ht N
 | _=>.nil
def aA:List (FuncId × TSp)->aH
 | [],_=>none
 | (K,sp)::l,K'=>bif Nat.beq K' K then some sp else aA l K'
def agE (P:Program) (E:aH):Prop:=∀K sp,E K=some sp->sp.Ok P K
theorem aj (P:Program):agE P (aA []):=by intro K sp h;cases h
theorem ae {P:Program} {K:FuncId} {sp:TSp} {l:List (FuncId × TSp)} (h:sp.Ok P K) (hl:agE P (aA l)):agE P (aA ((K,sp)::l)):=by
 intro K' sp' h';simp only [aA] at h';cases hb:Nat.beq K' K with
 | true=>
  rw [hb] at h';have:=Nat.eq_of_beq_eq_true hb;subst this;cases h';exact h
 | false=>rw [hb] at h';exact hl K' sp' h'
end Go.Fw
