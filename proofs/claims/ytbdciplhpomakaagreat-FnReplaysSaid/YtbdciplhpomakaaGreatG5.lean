/- A way of showing what a function computes: the blocks of the heap are owned by the places that lW them; this is a part of it. No conditions. -/
import Derived.Test.YtbdciplhpomakaaGreatG4
import Derived.ChangeOld
import Derived.ChangeSlices
import Derived.ChangeArms
import Derived.WideShapes
import Derived.Below
import Derived.Carry
import Derived.ChangeShapes
set_option linter.unusedSectionVars false
namespace Go.Fw
mutual
def okV:(c:TY)->lZ c->Prop
 | .b,_=>True
 | .i k,x=>(Lit.int k x).wf=true
 | .s,x=>ByteArray.size x<=maxLen
 | .sl e,x=>List.length x<=maxLen/\∀y,y∈(show aa (a_ e) from x)->rU e y
def rU:(cs:aa TY)->a_ cs->Prop
 | [],_=>True
 | [c],x=>okV c x
 | c::c'::cs,x=>okV c x.1/\rU (c'::cs) x.2
end
theorem adq {c:TY} {cs:aa TY} {x:lZ c} {y:a_ cs} (h:okV c x) (h':rU cs y):rU (c::cs) (qQ x y):=by
 cases cs with
 | nil=>exact (by simpa [rU,qQ] using h)
 | cons c' cs=>exact (by simp only [rU,qQ];exact ⟨h,h'⟩)
theorem Wn:∀{cs cs':aa TY} {x:a_ cs} {y:a_ cs'},rU cs x->rU cs' y->rU (cs++cs') (Wj x y)
 | [],_,_,_,_,h=>h
 | [c],cs',x,y,h,h'=>adq (c:=c) (x:=gI x) (by simpa only [rU,gI] using h) (Wn (cs:=[]) (x:=()) trivial h')
 | c::c'::cs,cs',x,y,h,h'=>by
  simp only [rU] at h;exact adq h.1 (Wn h.2 h')
mutual
def Yl (i:Nat):TY->CT
 | .sl e=>.sl (.ro [i]) (wV i e)
 | _=>.d
def wV (i:Nat):aa TY->aa CT
 | []=>[]
 | c::cs=>Yl i c::wV i cs
end
theorem KD (i:Nat):∀ts:aa TY,(wV i ts).length=ts.length
 | []=>rfl
 | _::ts=>by simp [wV,KD i ts]
def ab6 (g:TypeId->ah (aa TY)):Nat->aa Field->ah (aa TY)
 | _,[]=>some []
 | o,f::fs=>match g f.type with
  | some a=>match ab6 g (o+a.length) fs with
   | some b=>if f.offset=o then some (a++b) else none
   | none=>none
  | none=>none
def agf (P:aS) (g:TypeId->ah (aa TY)) (t:TypeId):ah (aa TY):=
 match P.underlying t with
 | some .bool=>some [.b]
 | some (.int k)=>some [.i k]
 | some .string=>some [.s]
 | some (.slice e)=>match g e with
  | some (c::cs)=>some [.sl (c::cs)]
  | _=>none
 | some (.struct fs)=>ab6 g 0 fs.toList
 | _=>none
def u_ (P:aS):Nat->TypeId->ah (aa TY)
 | 0,_=>none
 | f+1,t=>match agf P (u_ P f) t with
  | some ts=>if P.cellsOf t=ts.length then some ts else none
  | none=>none
theorem amK {α:Type} {Q:Nat->α->Prop}:∀{n:Nat},(∀i,i<n->∃x,Q i x)->∃xs:aa α,xs.length=n/\∀i x,xs[i]?=some x->Q i x
 | 0,_=>⟨[],rfl,fun i x h=>by simp at h⟩
 | n+1,h=>by
  obtain ⟨xs,h1,h2⟩:=amK (n:=n) fun i hi=>h i (by omega)
  obtain ⟨y,hy⟩:=h n (by omega);refine ⟨xs++[y],by simp [h1],fun i x hx => ?_⟩;by_cases hi:i<n
  ·rw [rE (by omega)] at hx;exact h2 i x hx
  ·have hl:=(aZ hx).1;simp only [dP,bF,bQ] at hl;have:i=n:=by omega
   subst this;rw [<-h1,List.getElem?_concat_length] at hx;cases hx;exact hy
theorem asv {κ:aQ} {w:aA} {e:aa CT} {p:Pl} {get:Nat->aj}:∀{xs:aa (aa A)} {j:Nat},(∀i x,xs[i]?=some x->aB κ w e p (j+i*e.length) get x)->dz κ w e p j get xs
 | [],_,_=>by simp [dz]
 | x::xs,j,h=>by
  simp only [dz];refine ⟨by simpa using h 0 x rfl,asv fun i y hy => ?_⟩;have:=h (i+1) y (by simpa using hy);rw [show j+(i+1)*e.length=j+e.length+i*e.length from by rw [Nat.succ_mul];omega] at this;exact this
theorem amL {κ:aQ} {w:aA} {p:Pl} {get:Nat->aj}:∀{cs cs':aa CT} {j:Nat} {as as':aa A},aB κ w cs p j get as->aB κ w cs' p (j+cs.length) get as'->aB κ w (cs++cs') p j get (as++as')
 | [],_,_,as,_,h,h'=>by
  cases as with
  | nil=>simpa using h'
  | cons a as=>simp [aB] at h
 | c::cs,_,j,as,_,h,h'=>by
  cases as with
  | nil=>simp [aB] at h
  | cons a as=>
   simp only [aB] at h;simp only [mZ,aB];refine ⟨h.1,amL h.2 ?_⟩;rw [show j+1+cs.length=j+(c::cs).length from by simp;omega];exact h'
theorem ahD (i:Nat):∀(a b:aa TY),wV i (a++b)=wV i a++wV i b
 | [],_=>rfl
 | c::a,b=>by simp [wV,ahD i a b]
abbrev noC:aQ:=fun _=>none
section
variable {H:Type} {enc':TypeId × aj->H} {P:aS} {w:aA} {base:Nat} {spare:Nat->Bool} {aCw:Bool}
def Rd (w:aA) (ts:aa TY) (cs:aa aj):Prop:=∃v:a_ ts,rU ts v/\cs.length=ts.length/\∀(i:Nat) (p:Pl) (j:Nat) (get:Nat->aj),(∀k,k<cs.length->get (j+k)=cs.getD k undef)->aB noC w (wV i ts) p j get (bu ts v)
theorem NZ {c:TY} {x:aj} {v:lZ c} (h:okV c v) (hr:∀i p,RC noC w (Yl i c) p x (enc c v)):Rd w [c] [x]:=by
 refine ⟨v,by simpa only [rU] using h,rfl,fun i p j get hg => ?_⟩;simp only [wV,bu,aB,and_true];have:=hg 0 (by simp);simp at this;rw [this];exact hr i _
theorem amM {g:TypeId->ah (aa TY)} {F:TypeId->aa aj->Prop} (hg:∀t ts cs,g t=some ts->F t cs->Rd w ts cs) (bN:∀t ts,g t=some ts->P.cellsOf t=ts.length) :
  ∀{fs:aa Field} {o:Nat} {ts:aa TY} {cs:aa aj},ab6 g o fs=some ts->cs.length=o+ts.length->(∀f,f∈fs->F f.type ((cs.drop f.offset).take (P.cellsOf f.type)))->Rd w ts (cs.drop o)
 | [],o,ts,cs,h,hl,_=>by
  simp only [ab6,aN] at h;subst h;have:cs.drop o=[]:=by rw [List.drop_eq_nil_iff];simp at hl;omega
  rw [this];exact ⟨(),trivial,rfl,fun i p j get _=>by simp [wV,bu,aB]⟩
 | f::fs,o,ts,cs,h,hl,hF=>by
  simp only [ab6] at h;cases ha:g f.type with
  | none=>rw [ha] at h;simp at h
  | some a=>
   rw [ha] at h;simp only at h;cases hb:ab6 g (o+a.length) fs with
   | none=>rw [hb] at h;simp at h
   | some b=>
    rw [hb] at h;simp only at h;split at h
    ·rename_i ho;simp only [aN] at h;subst h;have h1:=hF f (by simp);rw [ho,bN _ _ ha] at h1;obtain ⟨x,hx1,Re,hx3⟩:=hg _ _ _ ha h1;obtain ⟨y,Q5,hy2,hy3⟩:=amM hg bN hb (cs:=cs) (by rw [hl];simp;omega) fun f' ku=>hF f' (by simp [ku])
     refine ⟨Wj x y,Wn hx1 Q5,by simp [hl],fun i p j get zN => ?_⟩;rw [Wl,ahD];have e1:∀k,k<a.length->((cs.drop o).take a.length).getD k undef=(cs.drop o).getD k undef:=fun k hk=>by
      simp [List.getD,List.getElem?_take,hk]
     have e2:∀k,(cs.drop (o+a.length)).getD k undef=(cs.drop o).getD (a.length+k) undef:=fun k=>by
      simp [List.getD,pE,kF]
     have L:(cs.drop o).length=a.length+b.length:=by simp [hl]
     refine amL (hx3 i p j get fun k hk => ?_) (hy3 i p _ get fun k hk => ?_)
     ·rw [Re] at hk;rw [e1 k hk];exact zN k (by omega)
     ·rw [hy2] at hk;rw [KD,e2,kF];exact zN _ (by omega)
    ·simp at h
theorem Wo {f:Nat} {t:TypeId} {ts:aa TY} (h:u_ P f t=some ts):P.cellsOf t=ts.length:=by
 cases f with
 | zero=>simp [u_] at h
 | succ f=>
  simp only [u_] at h;split at h
  ·split at h
   ·cases h;assumption
   ·simp at h
  ·simp at h
theorem ab7:∀(f:Nat) {t:TypeId} {ts:aa TY} {cs:aa aj},u_ P f t=some ts->(∃fuel x,DataW.trod enc' P w base spare aCw fuel t cs=some x)->Rd w ts cs
 | 0,_,_,_,h,_=>by simp [u_] at h
 | f+1,t,ts,cs,h,hx=>by
  obtain ⟨fuel,x,hx⟩:=hx
  have bN:=Wo h
  simp only [u_] at h
  cases hr:agf P (u_ P f) t with
  | none=>rw [hr] at h;simp at h
  | some ts'=>
   rw [hr] at h
   simp only at h
   split at h
   ·simp only [aN] at h
    subst h
    unfold agf at hr
    split at hr
    ·rename_i hu
     cases hr
     obtain ⟨b,rfl,_⟩:=DataW.trod_bool hu hx
     exact NZ (c:=.b) (v:=b) trivial fun i p=>by simp only [Yl,enc,RC];exact ⟨trivial,rfl⟩
    ·rename_i k hu
     cases hr
     obtain ⟨n,rfl,_,hw⟩:=DataW.trod_int hu hx
     exact NZ (c:=.i k) (v:=n) hw fun i p=>by simp only [Yl,enc,RC];exact ⟨trivial,rfl⟩
    ·rename_i hu
     cases hr
     obtain ⟨s,rfl,_,hw⟩:=DataW.trod_string hu hx
     exact NZ (c:=.s) (v:=s) hw fun i p=>by simp only [Yl,enc,RC];exact ⟨trivial,rfl⟩
    ·rename_i e hu
     cases he:u_ P f e with
     | none=>rw [he] at hr;simp at hr
     | some es=>
      rw [he] at hr
      cases es with
      | nil=>simp at hr
      | cons c es=>
       simp only [aN] at hr
       subst hr
       rcases DataW.trod_slice hu hx with ⟨rfl,_⟩|⟨a,len,cap,elems,rest,n,_,rfl,_,hb,hl,hm,Ce,hE,_⟩
       ·refine NZ (c:=.sl (c::es)) (v:=([]:aa _)) ?_ fun i p => ?_
        ·simp only [okV];exact ⟨Ay _,fun y hy=>by simp at hy⟩
        ·refine Eq.subst (motive:=fun z=>RC noC w (Yl i (.sl (c::es))) p _ z) (um (e:=c::es) ([]:aa _)).symm ?_
         simp only [Yl,bI,RC,Dz];exact ⟨none,0,rfl,eX _,.inl trivial⟩
       ·have hn:=Wo he
        have each:∀i,i<len->∃v:a_ (c::es),rU _ v/\∃ci:aa aj,ci.length=(c::es).length/\(∀k,k<ci.length->w.cell? ((a.add (i*P.cellsOf e)).add k)=some (ci.getD k undef)) /\
          ∀(r:Nat) (p:Pl) (j:Nat) (get:Nat->aj),(∀k,k<ci.length->get (j+k)=ci.getD k undef)->aB noC w (wV r (c::es)) p j get (bu (c::es) v):=by
         intro i hi;have h1:=hE i hi;have h2:elems[i]?=some (elems[i]'(by omega)):=aR (by omega);rw [h2,Cf] at h1;obtain ⟨ci,h3,h4⟩:=h1;obtain ⟨v,hv1,hv2,hv3⟩:=ab7 f he ⟨_,_,h4⟩;obtain ⟨_,_,h5⟩:=World.cells?_some h3;refine ⟨v,hv1,ci,hv2,fun k hk => ?_,hv3⟩;rw [h5 k (by rw [hn,<-hv2];exact hk)];simp [List.getD,aR hk]
        obtain ⟨xs,Ns,Bo⟩:=amK each
        refine NZ (c:=.sl (c::es)) (v:=xs) ?_ fun i p => ?_
        ·simp only [okV]
         refine ⟨by rw [Ns];omega,fun y hy => ?_⟩
         obtain ⟨k,hk⟩:=List.getElem?_of_mem hy
         exact (Bo k y hk).1
        ·refine Eq.subst (motive:=fun z=>RC noC w (Yl i (.sl (c::es))) p _ z) (um (e:=c::es) xs).symm ?_
         simp only [Yl,RC,Dz]
         refine ⟨some a,cap,by simp [Ns],by simpa [Ns] using hl,?_⟩
         cases hlz:len with
         | zero=>
          left
          have:xs=[]:=qL.1 (by omega)
          simp [this]
         | succ m=>
          right
          have sH:a.spot=none/\a.block<w.heap.size:=by
           obtain ⟨_,_,ci,hci,He,_⟩:=each 0 (by omega)
           have:=He 0 (by simp [hci])
           simp only [Nat.zero_mul,Addr.add,if_pos] at this
           have hb:=World.block_lt_of_cell? w _ this
           refine ⟨?_,hb⟩
           unfold World.cell? at this
           split at this
           ·split at this
            ·cases this
            ·rename_i hs;simpa using hs
           ·cases this
          have aCy:∀i k,(a.add (i*P.cellsOf e)).add k=⟨a.block,a.off+(i*P.cellsOf e+k),none⟩:=by
           intro i k
           obtain ⟨ab,ao,asp⟩:=a
           simp only at sH
           obtain ⟨rfl,_⟩:=sH
           unfold Addr.add
           split
           ·split
            ·simp_all
            ·simp_all
           ·split
            ·simp_all
            ·simp_all [kF]
          have agm:(wV i (c::es)).length=(c::es).length:=KD i _
          refine ⟨a.block,a.off,?_,⟨sH.2,fun r q hq=>by cases hq⟩,?_,?_⟩
          ·obtain ⟨ab,ao,asp⟩:=a
           simp only at sH
           rw [sH.1]
          ·intro o h1 h2
           rw [agm,<-hn] at h2
           simp only [dX,Ns] at h2
           have yc:0<P.cellsOf e:=by rw [hn];simp
           have hi:(o-a.off) / P.cellsOf e<len:=by
            rw [Nat.div_lt_iff_lt_mul yc];omega
           obtain ⟨_,_,ci,hci,He,_⟩:=each _ hi
           refine ⟨ci.getD ((o-a.off) % P.cellsOf e) undef,?_⟩
           have:=He ((o-a.off) % P.cellsOf e) (by rw [hci,<-hn];exact Nat.mod_lt _ yc)
           rw [aCy,Nat.mul_comm,Nat.div_add_mod,show a.off+(o-a.off)=o from by omega] at this
           exact this
          ·refine asv fun k y hy => ?_
           simp only [kE,dh] at hy
           obtain ⟨v,hv,rfl⟩:=hy
           obtain ⟨_,ci,hci,He,tT⟩:=Bo k v hv
           refine tT i p _ (fun j=>cellD w a.block (a.off+j)) fun q hq => ?_
           have:=He q hq
           rw [aCy] at this
           unfold cellD
           rw [agm,dE,<-hn,this]
           rfl
    ·rename_i fs hu
     obtain ⟨xs,n,_,_,jX,Ns,hF⟩:=DataW.trod_struct hu hx
     have:=amM (P:=P) (w:=w) (g:=u_ P f) (F:=fun t cs=>∃fuel x,DataW.trod enc' P w base spare aCw fuel t cs=some x) (fun t ts cs h1 h2=>ab7 f h1 h2) (fun t ts h=>Wo h) hr (cs:=cs) (by rw [jX,bN];simp) fun f' ku=>by
      obtain ⟨k,hk⟩:=List.getElem?_of_mem ku
      have h1:=hF k f' (by simpa using hk)
      have h2:xs[k]?=some (xs[k]'(by rw [Ns];have:=(aZ hk).1;simpa using this)):=aR _
      rw [h2] at h1
      exact ⟨_,_,h1⟩
     simpa using this
    ·simp at hr
   ·simp at h
end
end Go.Fw
namespace Go.Fw
def KE:(ps:aa (aa TY))->lQ ps->Prop
 | [],_=>True
 | [p],x=>rU p x
 | p::p'::ps,x=>rU p x.1/\KE (p'::ps) x.2
theorem ao_ {p:aa TY} {ps:aa (aa TY)} {x:a_ p} {y:lQ ps} (h:rU p x) (h':KE ps y):KE (p::ps) (AQ x y):=by
 cases ps with
 | nil=>exact (by simpa [KE,AQ] using h)
 | cons c' cs=>exact (by simp only [KE,AQ];exact ⟨h,h'⟩)
def agT (P:aS) (t:TypeId):Bool:=match P.underlying t with
 | some (.struct _)=>true
 | _=>false
def Jm (P:aS):Nat->aa PM->aa (aa TY)->aa TypeId->Bool
 | _,[],[],[]=>true
 | i,.rd ag cs::pms,p::ps,t::ts=>CT.beqs (CT.roizes [i] cs) (wV i p)&&(match u_ P 12 t with
  | some q=>TY.beqs q p
  | none=>false)&&(ag == agT P t)&&P.readableRec t&&decide (t<P.types.size)&&Jm P (i+1) pms ps ts
 | _,_,_,_=>false
section
variable {H:Type} {enc':TypeId × aj->H} {P:aS} {W:aA}
theorem ahF {t:TypeId} {x:aj} {base:Nat} (ht:∃q,u_ P 12 t=some q) (h:Value.okWide P W .any base t x):cellsOf (agT P t) x=some x.cells.toList:=by
 obtain ⟨q,ht⟩:=ht;unfold u_ agf at ht;unfold agT;cases hu:P.underlying t with
 | none=>rw [hu] at ht;simp at ht
 | some d=>
  rw [hu] at ht;unfold Value.okWide at h;rw [hu] at h;cases d with
  | struct fs=>
   obtain ⟨cs,rfl,_⟩:=h;rfl
  | bool=>obtain ⟨b,rfl⟩:=Go.WideShapes.okWide_bool (base:=base) (w:=W) (r:=.any) (v:=x) hu (by unfold Value.okWide;rw [hu];exact h);rfl
  | int k=>obtain ⟨b,rfl⟩:=Go.WideShapes.okWide_int (base:=base) (w:=W) (r:=.any) (v:=x) hu (by unfold Value.okWide;rw [hu];exact h);rfl
  | string=>obtain ⟨b,rfl⟩:=Go.WideShapes.okWide_string (base:=base) (w:=W) (r:=.any) (v:=x) hu (by unfold Value.okWide;rw [hu];exact h);rfl
  | slice e=>obtain ⟨a,b,c,rfl⟩:=Go.WideShapes.okWide_slice (base:=base) (w:=W) (r:=.any) (v:=x) hu (by unfold Value.okWide;rw [hu];exact h);rfl
  | _=>simp at ht
theorem amN:∀{pms:aa PM} {ps:aa (aa TY)} {ts:aa TypeId} {i:Nat} {vs:aa aj} {ds:aa (DataW H)} {mp:aa MemPlace} {base:Nat},Jm P i pms ps ts=true ->
  (∀(j:Nat) t v,ts[j]?=some t->vs[j]?=some v->Value.okWide P W .any base t v)->DataW.TrodAll enc' P W 0 (fun _=>true) true ts vs ds mp ->
  ∃xs:lQ ps,KE ps xs/\vs.length=pms.length/\(qR ps xs).length=pms.length/\∀k pm x as,pms[k]?=some pm->vs[k]?=some x->(qR ps xs)[k]?=some as->pI noC W (i+k) x as pm
 | [],ps,ts,i,vs,ds,mp,base,h,hv,ht=>by
  cases ps<;>cases ts<;>simp [Jm] at h;cases vs with
  | nil=>exact ⟨(),trivial,rfl,rfl,fun k pm x as h=>by simp at h⟩
  | cons v vs=>cases ds<;>simp [DataW.TrodAll] at ht
 | pm::pms,ps,ts,i,vs,ds,mp,base,h,hv,ht=>by
  cases ps with
  | nil=>cases pm<;>simp [Jm] at h
  | cons p ps=>
   cases ts with
   | nil=>cases pm<;>simp [Jm] at h
   | cons t ts=>
    cases pm with
    | rd ag cs=>
     simp only [Jm,aU] at h;obtain ⟨⟨⟨⟨⟨h1,h2⟩,h3⟩,_⟩,_⟩,h6⟩:=h;cases hq:u_ P 12 t with
     | none=>rw [hq] at h2;simp at h2
     | some q=>
      rw [hq] at h2;simp only at h2;have hq':u_ P 12 t=some p:=by rw [hq,TY.beqs_eq h2]
      cases vs with
      | nil=>cases ds<;>simp [DataW.TrodAll] at ht
      | cons v vs=>
       cases ds with
       | nil=>simp [DataW.TrodAll] at ht
       | cons d ds=>
        obtain ⟨mp1,mp2,⟨fu,ht1⟩,ht2,_⟩:=ht;obtain ⟨x,hx1,Re,hx3⟩:=ab7 12 hq' ⟨_,_,ht1⟩;obtain ⟨xs,mY,Fy,hs3,hs4⟩:=amN h6 (fun j t v h1 h2=>hv (j+1) t v (by simpa using h1) (by simpa using h2)) ht2;have hc:=ahF ⟨_,hq⟩ (hv 0 t v rfl rfl);have Nr:ag=agT P t:=by simpa using h3
        have qi:=CT.beqs_eq h1;refine ⟨AQ x xs,ao_ hx1 mY,by simp [Fy],by rw [Kz];simp [hs3],fun k pm y as e1 e2 e3 => ?_⟩;rw [Kz] at e3;cases k with
        | zero=>
         simp only [J9,aN] at e1 e2 e3;subst e1 e2 e3;refine ⟨_,Nr▸hc,?_,?_⟩
         ·rw [Re,<-KD i p,<-qi,dD]
         ·rw [pY,qi];exact hx3 i _ 0 _ fun k hk=>by rw [dE]
        | succ k=>
         simp only [Xy] at e1 e2 e3;have:=hs4 k pm y as e1 e2 e3;rw [show i+(k+1)=i+1+k from by omega];exact this
    | _=>simp [Jm] at h
theorem Ym (hl:laidOutB P=true):∀{pms:aa PM} {ps:aa (aa TY)} {ts:aa TypeId} {i:Nat} {vs:aa aj} {ds:aa (DataW H)} {mp:aa MemPlace} {W':aA},Jm P i pms ps ts=true ->
  DataW.TrodAll enc' P W 0 (fun _=>true) true ts vs ds mp->Go.RowKit.Below W.heap.size W W'->DataW.TrodAll enc' P W' 0 (fun b=>decide (b<W.heap.size)) true ts vs ds mp
 | pms,ps,[],i,vs,ds,mp,W',h,ht,hb=>by
  cases vs<;>cases ds<;>simp [DataW.TrodAll] at ht ⊢;exact ht
 | pms,ps,t::ts,i,vs,ds,mp,W',h,ht,hb=>by
  cases pms with
  | nil=>cases ps<;>simp [Jm] at h
  | cons pm pms=>
   cases ps with
   | nil=>cases pm<;>simp [Jm] at h
   | cons p ps=>
    cases pm with
    | rd ag cs=>
     simp only [Jm,aU,decide_eq_true_eq] at h;obtain ⟨⟨⟨⟨⟨_,_⟩,_⟩,h4⟩,h5⟩,h6⟩:=h;cases vs with
     | nil=>cases ds<;>simp [DataW.TrodAll] at ht
     | cons v vs=>
      cases ds with
      | nil=>simp [DataW.TrodAll] at ht
      | cons d ds=>
       obtain ⟨mp1,mp2,ht1,ht2,rfl⟩:=ht;refine ⟨mp1,mp2,?_,Ym hl h6 ht2 hb,rfl⟩;refine Go.RowKit.Below.trod hl h4 h5 ht1 hb ?_;obtain ⟨m,hm⟩:=ht1;exact DataW.trod_lt m _ _ _ hm
    | _=>simp [Jm] at h
theorem asw {K:FuncId} {sg:aL} {ps:aa (aa TY)} {g:lQ ps->ah (a_ [.b] × a_ [])} (aT:TSp.Ok P K ⟨sg,ps,[.b],[],0,g⟩) (kS:sg.res = .one false [.d])
  {ts:aa TypeId} (yg:Jm P 0 sg.ps ps ts=true) (hl:laidOutB P=true) {args:Array aj} {ds:aa (DataW H)} {mp:aa MemPlace} {base:Nat}
  (hv:∀(j:Nat) t v,ts[j]?=some t->args[j]?=some v->Value.okWide P W .any base t v) (ht:DataW.TrodAll enc' P W 0 (fun _=>true) true ts args.toList ds mp)
  (hg:∀xs,KE ps xs->g xs=some (true,())) :
  Calls P K args W fun e W'=>e = .returned (.bool true)/\DataW.TrodAll enc' P W' 0 (fun b=>decide (b<W.heap.size)) true ts args.toList ds mp/\Go.RowKit.Below W.heap.size W W':=by
 obtain ⟨xs,h1,h2,h3,h4⟩:=amN yg (fun j t v h1 h2=>hv j t v h1 (by simpa using h2)) ht;have:=aT xs _ _ (hg xs h1) noC W args.toList (fun _ _=>rfl) (fun b r q h=>by cases h) h2 h3 (fun i pm x as e1 e2 e3=>by simpa using h4 i pm x as e1 e2 e3);rw [Array.toArray_toList] at this;refine this.mono fun e W' ⟨v,κ',he,hp⟩ => ?_
 have hb:Go.RowKit.Below W.heap.size W W':=⟨hp.fr.os,hp.fr.tape,hp.fr.out,hp.fr.size,fun k hk=>(hp.fr.kept k hk rfl).2⟩
 refine ⟨?_,Ym hl yg ht hb,hb⟩;have hr:=hp.res;simp only [kS] at hr;obtain ⟨vs,e1,e2,e3⟩:=hr;rw [he];congr 1;simp only [bu,enc,aB,RC] at e3;cases vs with
 | nil=>simp at e2
 | cons y vs=>
  cases vs with
  | cons _ _=>simp at e2
  | nil=>
   simp only [uG] at e3;cases v<;>simp [cellsOf] at e1<;>simp [e1,e3.1.1]
end
end Go.Fw
