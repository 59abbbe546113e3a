/- A way of showing what a function computes: the blocks of the heap are owned by the places that kg them; this is a part of it. No conditions. -/
import Derived.Test.YtjicinmnfkinhaaGreatG4
import Derived.ChangeOld
import Derived.ChangeSlices
import Derived.ChangeArms
import Derived.WideShapes
import Derived.Below
import Derived.Carry
import Derived.ChangeShapes
set_option linter.unusedSectionVars false
namespace Go.Fw
mutual
def okV:(c:TY)->l_ c->Prop
 | .b,_=>True
 | .i k,x=>(Lit.int k x).wf=true
 | .s,x=>ByteArray.size x<=maxLen
 | .sl e,x=>List.length x<=maxLen/\∀y,y∈(show aa (bg e) from x)->rY e y
def rY:(cs:aa TY)->bg cs->Prop
 | [],_=>True
 | [c],x=>okV c x
 | c::c'::cs,x=>okV c x.1/\rY (c'::cs) x.2
end
theorem adA {c:TY} {cs:aa TY} {x:l_ c} {y:bg cs} (h:okV c x) (h':rY cs y):rY (c::cs) (qX x y):=by
 cases cs with
 | nil=>exact (by simpa [rY,qX] using h)
 | cons c' cs=>exact (by simp only [rY,qX];exact ⟨h,h'⟩)
theorem VT:∀{cs cs':aa TY} {x:bg cs} {y:bg cs'},rY cs x->rY cs' y->rY (cs++cs') (VQ x y)
 | [],_,_,_,_,h=>h
 | [c],cs',x,y,h,h'=>adA (c:=c) (x:=gW x) (by simpa only [rY,gW] using h) (VT (cs:=[]) (x:=()) trivial h')
 | c::c'::cs,cs',x,y,h,h'=>by
  simp only [rY] at h;exact adA h.1 (VT h.2 h')
mutual
def XT (i:Nat):TY->CT
 | .sl e=>.sl (.ro [i]) (xz i e)
 | _=>.d
def xz (i:Nat):aa TY->aa CT
 | []=>[]
 | c::cs=>XT i c::xz i cs
end
theorem KC (i:Nat):∀ts:aa TY,(xz i ts).length=ts.length
 | []=>rfl
 | _::ts=>by simp [xz,KC i ts]
def acj (g:TypeId->ah (aa TY)):Nat->aa Field->ah (aa TY)
 | _,[]=>some []
 | o,f::fs=>match g f.type with
  | some a=>match acj g (o+a.length) fs with
   | some b=>if f.offset=o then some (a++b) else none
   | none=>none
  | none=>none
def agF (P:aR) (g:TypeId->ah (aa TY)) (t:TypeId):ah (aa TY):=
 match P.underlying t with
 | some .bool=>some [.b]
 | some (.int k)=>some [.i k]
 | some .string=>some [.s]
 | some (.slice e)=>match g e with
  | some (c::cs)=>some [.sl (c::cs)]
  | _=>none
 | some (.struct fs)=>acj g 0 fs.toList
 | _=>none
def vO (P:aR):Nat->TypeId->ah (aa TY)
 | 0,_=>none
 | f+1,t=>match agF P (vO P f) t with
  | some ts=>if P.cellsOf t=ts.length then some ts else none
  | none=>none
theorem amR {α:Type} {Q:Nat->α->Prop}:∀{n:Nat},(∀i,i<n->∃x,Q i x)->∃xs:aa α,xs.length=n/\∀i x,xs[i]?=some x->Q i x
 | 0,_=>⟨[],rfl,fun i x h=>by simp at h⟩
 | n+1,h=>by
  obtain ⟨xs,h1,h2⟩:=amR (n:=n) fun i hi=>h i (by omega)
  obtain ⟨y,hy⟩:=h n (by omega);refine ⟨xs++[y],by simp [h1],fun i x hx => ?_⟩;by_cases hi:i<n
  ·rw [rH (by omega)] at hx;exact h2 i x hx
  ·have hl:=(bn hx).1;simp only [bq,bA,bB] at hl;have:i=n:=by omega
   subst this;rw [<-h1,List.getElem?_concat_length] at hx;cases hx;exact hy
theorem as1 {κ:aP} {w:aA} {e:aa CT} {p:Pl} {get:Nat->aj}:∀{xs:aa (aa A)} {j:Nat},(∀i x,xs[i]?=some x->aB κ w e p (j+i*e.length) get x)->dF κ w e p j get xs
 | [],_,_=>by simp [dF]
 | x::xs,j,h=>by
  simp only [dF];refine ⟨by simpa using h 0 x rfl,as1 fun i y hy => ?_⟩;have:=h (i+1) y (by simpa using hy);rw [show j+(i+1)*e.length=j+e.length+i*e.length from by rw [Nat.succ_mul];omega] at this;exact this
theorem amS {κ:aP} {w:aA} {p:Pl} {get:Nat->aj}:∀{cs cs':aa CT} {j:Nat} {as as':aa A},aB κ w cs p j get as->aB κ w cs' p (j+cs.length) get as'->aB κ w (cs++cs') p j get (as++as')
 | [],_,_,as,_,h,h'=>by
  cases as with
  | nil=>simpa using h'
  | cons a as=>simp [aB] at h
 | c::cs,_,j,as,_,h,h'=>by
  cases as with
  | nil=>simp [aB] at h
  | cons a as=>
   simp only [aB] at h;simp only [nC,aB];refine ⟨h.1,amS h.2 ?_⟩;rw [show j+1+cs.length=j+(c::cs).length from by simp;omega];exact h'
theorem ahZ (i:Nat):∀(a b:aa TY),xz i (a++b)=xz i a++xz i b
 | [],_=>rfl
 | c::a,b=>by simp [xz,ahZ i a b]
abbrev noC:aP:=fun _=>none
section
variable {H:Type} {enc':TypeId × aj->H} {P:aR} {w:aA} {base:Nat} {spare:Nat->Bool} {aDs:Bool}
def Rd (w:aA) (ts:aa TY) (cs:aa aj):Prop:=∃v:bg ts,rY ts v/\cs.length=ts.length/\∀(i:Nat) (p:Pl) (j:Nat) (get:Nat->aj),(∀k,k<cs.length->get (j+k)=cs.getD k undef)->aB noC w (xz i ts) p j get (bC ts v)
theorem OU {c:TY} {x:aj} {v:l_ c} (h:okV c v) (hr:∀i p,RC noC w (XT i c) p x (enc c v)):Rd w [c] [x]:=by
 refine ⟨v,by simpa only [rY] using h,rfl,fun i p j get hg => ?_⟩;simp only [xz,bC,aB,and_true];have:=hg 0 (by simp);simp at this;rw [this];exact hr i _
theorem amT {g:TypeId->ah (aa TY)} {F:TypeId->aa aj->Prop} (hg:∀t ts cs,g t=some ts->F t cs->Rd w ts cs) (bJ:∀t ts,g t=some ts->P.cellsOf t=ts.length) :
  ∀{fs:aa Field} {o:Nat} {ts:aa TY} {cs:aa aj},acj g o fs=some ts->cs.length=o+ts.length->(∀f,f∈fs->F f.type ((cs.drop f.offset).take (P.cellsOf f.type)))->Rd w ts (cs.drop o)
 | [],o,ts,cs,h,hl,_=>by
  simp only [acj,aK] at h;subst h;have:cs.drop o=[]:=by rw [List.drop_eq_nil_iff];simp at hl;omega
  rw [this];exact ⟨(),trivial,rfl,fun i p j get _=>by simp [xz,bC,aB]⟩
 | f::fs,o,ts,cs,h,hl,hF=>by
  simp only [acj] at h;cases ha:g f.type with
  | none=>rw [ha] at h;simp at h
  | some a=>
   rw [ha] at h;simp only at h;cases hb:acj g (o+a.length) fs with
   | none=>rw [hb] at h;simp at h
   | some b=>
    rw [hb] at h;simp only at h;split at h
    ·rename_i ho;simp only [aK] at h;subst h;have h1:=hF f (by simp);rw [ho,bJ _ _ ha] at h1;obtain ⟨x,hx1,RL,hx3⟩:=hg _ _ _ ha h1;obtain ⟨y,Ry,hy2,hy3⟩:=amT hg bJ hb (cs:=cs) (by rw [hl];simp;omega) fun f' kH=>hF f' (by simp [kH])
     refine ⟨VQ x y,VT hx1 Ry,by simp [hl],fun i p j get Al => ?_⟩;rw [VR,ahZ];have e1:∀k,k<a.length->((cs.drop o).take a.length).getD k undef=(cs.drop o).getD k undef:=fun k hk=>by
      simp [List.getD,List.getElem?_take,hk]
     have e2:∀k,(cs.drop (o+a.length)).getD k undef=(cs.drop o).getD (a.length+k) undef:=fun k=>by
      simp [List.getD,oF,jm]
     have L:(cs.drop o).length=a.length+b.length:=by simp [hl]
     refine amS (hx3 i p j get fun k hk => ?_) (hy3 i p _ get fun k hk => ?_)
     ·rw [RL] at hk;rw [e1 k hk];exact Al k (by omega)
     ·rw [hy2] at hk;rw [KC,e2,jm];exact Al _ (by omega)
    ·simp at h
theorem VU {f:Nat} {t:TypeId} {ts:aa TY} (h:vO P f t=some ts):P.cellsOf t=ts.length:=by
 cases f with
 | zero=>simp [vO] at h
 | succ f=>
  simp only [vO] at h;split at h
  ·split at h
   ·cases h;assumption
   ·simp at h
  ·simp at h
theorem ack:∀(f:Nat) {t:TypeId} {ts:aa TY} {cs:aa aj},vO P f t=some ts->(∃fuel x,DataW.trod enc' P w base spare aDs fuel t cs=some x)->Rd w ts cs
 | 0,_,_,_,h,_=>by simp [vO] at h
 | f+1,t,ts,cs,h,hx=>by
  obtain ⟨fuel,x,hx⟩:=hx
  have bJ:=VU h
  simp only [vO] at h
  cases hr:agF P (vO P f) t with
  | none=>rw [hr] at h;simp at h
  | some ts'=>
   rw [hr] at h
   simp only at h
   split at h
   ·simp only [aK] at h
    subst h
    unfold agF at hr
    split at hr
    ·rename_i hu
     cases hr
     obtain ⟨b,rfl,_⟩:=DataW.trod_bool hu hx
     exact OU (c:=.b) (v:=b) trivial fun i p=>by simp only [XT,enc,RC];exact ⟨trivial,rfl⟩
    ·rename_i k hu
     cases hr
     obtain ⟨n,rfl,_,hw⟩:=DataW.trod_int hu hx
     exact OU (c:=.i k) (v:=n) hw fun i p=>by simp only [XT,enc,RC];exact ⟨trivial,rfl⟩
    ·rename_i hu
     cases hr
     obtain ⟨s,rfl,_,hw⟩:=DataW.trod_string hu hx
     exact OU (c:=.s) (v:=s) hw fun i p=>by simp only [XT,enc,RC];exact ⟨trivial,rfl⟩
    ·rename_i e hu
     cases he:vO P f e with
     | none=>rw [he] at hr;simp at hr
     | some es=>
      rw [he] at hr
      cases es with
      | nil=>simp at hr
      | cons c es=>
       simp only [aK] at hr
       subst hr
       rcases DataW.trod_slice hu hx with ⟨rfl,_⟩|⟨a,len,cap,elems,rest,n,_,rfl,_,hb,hl,hm,RN,hE,_⟩
       ·refine OU (c:=.sl (c::es)) (v:=([]:aa _)) ?_ fun i p => ?_
        ·simp only [okV];exact ⟨lN _,fun y hy=>by simp at hy⟩
        ·refine Eq.subst (motive:=fun z=>RC noC w (XT i (.sl (c::es))) p _ z) (uG (e:=c::es) ([]:aa _)).symm ?_
         simp only [XT,bQ,RC,Ei];exact ⟨none,0,rfl,dV _,.inl trivial⟩
       ·have hn:=VU he
        have each:∀i,i<len->∃v:bg (c::es),rY _ v/\∃ci:aa aj,ci.length=(c::es).length/\(∀k,k<ci.length->w.cell? ((a.add (i*P.cellsOf e)).add k)=some (ci.getD k undef)) /\
          ∀(r:Nat) (p:Pl) (j:Nat) (get:Nat->aj),(∀k,k<ci.length->get (j+k)=ci.getD k undef)->aB noC w (xz r (c::es)) p j get (bC (c::es) v):=by
         intro i hi;have h1:=hE i hi;have h2:elems[i]?=some (elems[i]'(by omega)):=aZ (by omega);rw [h2,CR] at h1;obtain ⟨ci,h3,h4⟩:=h1;obtain ⟨v,hv1,hv2,hv3⟩:=ack f he ⟨_,_,h4⟩;obtain ⟨_,_,h5⟩:=World.cells?_some h3;refine ⟨v,hv1,ci,hv2,fun k hk => ?_,hv3⟩;rw [h5 k (by rw [hn,<-hv2];exact hk)];simp [List.getD,aZ hk]
        obtain ⟨xs,Oa,yP⟩:=amR each
        refine OU (c:=.sl (c::es)) (v:=xs) ?_ fun i p => ?_
        ·simp only [okV]
         refine ⟨by rw [Oa];omega,fun y hy => ?_⟩
         obtain ⟨k,hk⟩:=List.getElem?_of_mem hy
         exact (yP k y hk).1
        ·refine Eq.subst (motive:=fun z=>RC noC w (XT i (.sl (c::es))) p _ z) (uG (e:=c::es) xs).symm ?_
         simp only [XT,RC,Ei]
         refine ⟨some a,cap,by simp [Oa],by simpa [Oa] using hl,?_⟩
         cases hlz:len with
         | zero=>
          left
          have:xs=[]:=nz.1 (by omega)
          simp [this]
         | succ m=>
          right
          have sP:a.spot=none/\a.block<w.heap.size:=by
           obtain ⟨_,_,ci,hci,Hq,_⟩:=each 0 (by omega)
           have:=Hq 0 (by simp [hci])
           simp only [Nat.zero_mul,Addr.add,if_pos] at this
           have hb:=World.block_lt_of_cell? w _ this
           refine ⟨?_,hb⟩
           unfold World.cell? at this
           split at this
           ·split at this
            ·cases this
            ·rename_i hs;simpa using hs
           ·cases this
          have akw:∀i k,(a.add (i*P.cellsOf e)).add k=⟨a.block,a.off+(i*P.cellsOf e+k),none⟩:=by
           intro i k
           obtain ⟨ab,ao,asp⟩:=a
           simp only at sP
           obtain ⟨rfl,_⟩:=sP
           unfold Addr.add
           split
           ·split
            ·simp_all
            ·simp_all
           ·split
            ·simp_all
            ·simp_all [jm]
          have agM:(xz i (c::es)).length=(c::es).length:=KC i _
          refine ⟨a.block,a.off,?_,⟨sP.2,fun r q hq=>by cases hq⟩,?_,?_⟩
          ·obtain ⟨ab,ao,asp⟩:=a
           simp only at sP
           rw [sP.1]
          ·intro o h1 h2
           rw [agM,<-hn] at h2
           simp only [fE,Oa] at h2
           have yN:0<P.cellsOf e:=by rw [hn];simp
           have hi:(o-a.off) / P.cellsOf e<len:=by
            rw [Xb yN];omega
           obtain ⟨_,_,ci,hci,Hq,_⟩:=each _ hi
           refine ⟨ci.getD ((o-a.off) % P.cellsOf e) undef,?_⟩
           have:=Hq ((o-a.off) % P.cellsOf e) (by rw [hci,<-hn];exact Nat.mod_lt _ yN)
           rw [akw,Nat.mul_comm,Nat.div_add_mod,show a.off+(o-a.off)=o from by omega] at this
           exact this
          ·refine as1 fun k y hy => ?_
           simp only [kz,cO] at hy
           obtain ⟨v,hv,rfl⟩:=hy
           obtain ⟨_,ci,hci,Hq,um⟩:=yP k v hv
           refine um i p _ (fun j=>cellD w a.block (a.off+j)) fun q hq => ?_
           have:=Hq q hq
           rw [akw] at this
           unfold cellD
           rw [agM,cB,<-hn,this]
           rfl
    ·rename_i fs hu
     obtain ⟨xs,n,_,_,mQ,Oa,hF⟩:=DataW.trod_struct hu hx
     have:=amT (P:=P) (w:=w) (g:=vO P f) (F:=fun t cs=>∃fuel x,DataW.trod enc' P w base spare aDs fuel t cs=some x) (fun t ts cs h1 h2=>ack f h1 h2) (fun t ts h=>VU h) hr (cs:=cs) (by rw [mQ,bJ];simp) fun f' kH=>by
      obtain ⟨k,hk⟩:=List.getElem?_of_mem kH
      have h1:=hF k f' (by simpa using hk)
      have h2:xs[k]?=some (xs[k]'(by rw [Oa];have:=(bn hk).1;simpa using this)):=aZ _
      rw [h2] at h1
      exact ⟨_,_,h1⟩
     simpa using this
    ·simp at hr
   ·simp at h
end
end Go.Fw
namespace Go.Fw
def KD:(ps:aa (aa TY))->lZ ps->Prop
 | [],_=>True
 | [p],x=>rY p x
 | p::p'::ps,x=>rY p x.1/\KD (p'::ps) x.2
theorem apm {p:aa TY} {ps:aa (aa TY)} {x:bg p} {y:lZ ps} (h:rY p x) (h':KD ps y):KD (p::ps) (Bj x y):=by
 cases ps with
 | nil=>exact (by simpa [KD,Bj] using h)
 | cons c' cs=>exact (by simp only [KD,Bj];exact ⟨h,h'⟩)
def agT (P:aR) (t:TypeId):Bool:=match P.underlying t with
 | some (.struct _)=>true
 | _=>false
def Jd (P:aR):Nat->aa PM->aa (aa TY)->aa TypeId->Bool
 | _,[],[],[]=>true
 | i,.rd ag cs::pms,p::ps,t::ts=>CT.beqs (CT.roizes [i] cs) (xz i p)&&(match vO P 12 t with
  | some q=>TY.beqs q p
  | none=>false)&&(ag == agT P t)&&P.readableRec t&&decide (t<P.types.size)&&Jd P (i+1) pms ps ts
 | _,_,_,_=>false
section
variable {H:Type} {enc':TypeId × aj->H} {P:aR} {W:aA}
theorem ah1 {t:TypeId} {x:aj} {base:Nat} (ht:∃q,vO P 12 t=some q) (h:Value.okWide P W .any base t x):cellsOf (agT P t) x=some x.cells.toList:=by
 obtain ⟨q,ht⟩:=ht;unfold vO agF at ht;unfold agT;cases hu:P.underlying t with
 | none=>rw [hu] at ht;simp at ht
 | some d=>
  rw [hu] at ht;unfold Value.okWide at h;rw [hu] at h;cases d with
  | struct fs=>
   obtain ⟨cs,rfl,_⟩:=h;rfl
  | bool=>obtain ⟨b,rfl⟩:=Go.WideShapes.okWide_bool (base:=base) (w:=W) (r:=.any) (v:=x) hu (by unfold Value.okWide;rw [hu];exact h);rfl
  | int k=>obtain ⟨b,rfl⟩:=Go.WideShapes.okWide_int (base:=base) (w:=W) (r:=.any) (v:=x) hu (by unfold Value.okWide;rw [hu];exact h);rfl
  | string=>obtain ⟨b,rfl⟩:=Go.WideShapes.okWide_string (base:=base) (w:=W) (r:=.any) (v:=x) hu (by unfold Value.okWide;rw [hu];exact h);rfl
  | slice e=>obtain ⟨a,b,c,rfl⟩:=Go.WideShapes.okWide_slice (base:=base) (w:=W) (r:=.any) (v:=x) hu (by unfold Value.okWide;rw [hu];exact h);rfl
  | _=>simp at ht
theorem amU:∀{pms:aa PM} {ps:aa (aa TY)} {ts:aa TypeId} {i:Nat} {vs:aa aj} {ds:aa (DataW H)} {mp:aa MemPlace} {base:Nat},Jd P i pms ps ts=true ->
  (∀(j:Nat) t v,ts[j]?=some t->vs[j]?=some v->Value.okWide P W .any base t v)->DataW.TrodAll enc' P W 0 (fun _=>true) true ts vs ds mp ->
  ∃xs:lZ ps,KD ps xs/\vs.length=pms.length/\(qY ps xs).length=pms.length/\∀k pm x as,pms[k]?=some pm->vs[k]?=some x->(qY ps xs)[k]?=some as->pW noC W (i+k) x as pm
 | [],ps,ts,i,vs,ds,mp,base,h,hv,ht=>by
  cases ps<;>cases ts<;>simp [Jd] at h;cases vs with
  | nil=>exact ⟨(),trivial,rfl,rfl,fun k pm x as h=>by simp at h⟩
  | cons v vs=>cases ds<;>simp [DataW.TrodAll] at ht
 | pm::pms,ps,ts,i,vs,ds,mp,base,h,hv,ht=>by
  cases ps with
  | nil=>cases pm<;>simp [Jd] at h
  | cons p ps=>
   cases ts with
   | nil=>cases pm<;>simp [Jd] at h
   | cons t ts=>
    cases pm with
    | rd ag cs=>
     simp only [Jd,aM] at h;obtain ⟨⟨⟨⟨⟨h1,h2⟩,h3⟩,_⟩,_⟩,h6⟩:=h;cases hq:vO P 12 t with
     | none=>rw [hq] at h2;simp at h2
     | some q=>
      rw [hq] at h2;simp only at h2;have hq':vO P 12 t=some p:=by rw [hq,TY.beqs_eq h2]
      cases vs with
      | nil=>cases ds<;>simp [DataW.TrodAll] at ht
      | cons v vs=>
       cases ds with
       | nil=>simp [DataW.TrodAll] at ht
       | cons d ds=>
        obtain ⟨mp1,mp2,⟨fu,ht1⟩,ht2,_⟩:=ht;obtain ⟨x,hx1,RL,hx3⟩:=ack 12 hq' ⟨_,_,ht1⟩;obtain ⟨xs,lH,Hm,hs3,hs4⟩:=amU h6 (fun j t v h1 h2=>hv (j+1) t v (by simpa using h1) (by simpa using h2)) ht2;have hc:=ah1 ⟨_,hq⟩ (hv 0 t v rfl rfl);have N_:ag=agT P t:=by simpa using h3
        have pR:=CT.beqs_eq h1;refine ⟨Bj x xs,apm hx1 lH,by simp [Hm],by rw [Ky];simp [hs3],fun k pm y as e1 e2 e3 => ?_⟩;rw [Ky] at e3;cases k with
        | zero=>
         simp only [FR,aK] at e1 e2 e3;subst e1 e2 e3;refine ⟨_,N_▸hc,?_,?_⟩
         ·rw [RL,<-KC i p,<-pR,dE]
         ·rw [rJ,pR];exact hx3 i _ 0 _ fun k hk=>by rw [cB]
        | succ k=>
         simp only [FU] at e1 e2 e3;have:=hs4 k pm y as e1 e2 e3;rw [show i+(k+1)=i+1+k from by omega];exact this
    | _=>simp [Jd] at h
theorem XU (hl:laidOutB P=true):∀{pms:aa PM} {ps:aa (aa TY)} {ts:aa TypeId} {i:Nat} {vs:aa aj} {ds:aa (DataW H)} {mp:aa MemPlace} {W':aA},Jd P i pms ps ts=true ->
  DataW.TrodAll enc' P W 0 (fun _=>true) true ts vs ds mp->Go.RowKit.Below W.heap.size W W'->DataW.TrodAll enc' P W' 0 (fun b=>decide (b<W.heap.size)) true ts vs ds mp
 | pms,ps,[],i,vs,ds,mp,W',h,ht,hb=>by
  cases vs<;>cases ds<;>simp [DataW.TrodAll] at ht ⊢;exact ht
 | pms,ps,t::ts,i,vs,ds,mp,W',h,ht,hb=>by
  cases pms with
  | nil=>cases ps<;>simp [Jd] at h
  | cons pm pms=>
   cases ps with
   | nil=>cases pm<;>simp [Jd] at h
   | cons p ps=>
    cases pm with
    | rd ag cs=>
     simp only [Jd,aM,decide_eq_true_eq] at h;obtain ⟨⟨⟨⟨⟨_,_⟩,_⟩,h4⟩,h5⟩,h6⟩:=h;cases vs with
     | nil=>cases ds<;>simp [DataW.TrodAll] at ht
     | cons v vs=>
      cases ds with
      | nil=>simp [DataW.TrodAll] at ht
      | cons d ds=>
       obtain ⟨mp1,mp2,ht1,ht2,rfl⟩:=ht;refine ⟨mp1,mp2,?_,XU hl h6 ht2 hb,rfl⟩;refine Go.RowKit.Below.trod hl h4 h5 ht1 hb ?_;obtain ⟨m,hm⟩:=ht1;exact DataW.trod_lt m _ _ _ hm
    | _=>simp [Jd] at h
theorem as3 {K:FuncId} {sg:aO} {ps:aa (aa TY)} {g:lZ ps->ah (bg [.b] × bg [])} (a_:TSp.Ok P K ⟨sg,ps,[.b],[],0,g⟩) (kW:sg.res = .one false [.d])
  {ts:aa TypeId} (uo:Jd P 0 sg.ps ps ts=true) (hl:laidOutB P=true) {args:Array aj} {ds:aa (DataW H)} {mp:aa MemPlace} {base:Nat}
  (hv:∀(j:Nat) t v,ts[j]?=some t->args[j]?=some v->Value.okWide P W .any base t v) (ht:DataW.TrodAll enc' P W 0 (fun _=>true) true ts args.toList ds mp)
  (hg:∀xs,KD ps xs->g xs=some (true,())) :
  Calls P K args W fun e W'=>e = .returned (.bool true)/\DataW.TrodAll enc' P W' 0 (fun b=>decide (b<W.heap.size)) true ts args.toList ds mp/\Go.RowKit.Below W.heap.size W W':=by
 obtain ⟨xs,h1,h2,h3,h4⟩:=amU uo (fun j t v h1 h2=>hv j t v h1 (by simpa using h2)) ht;have:=a_ xs _ _ (hg xs h1) noC W args.toList (fun _ _=>rfl) (fun b r q h=>by cases h) h2 h3 (fun i pm x as e1 e2 e3=>by simpa using h4 i pm x as e1 e2 e3);rw [Array.toArray_toList] at this;refine this.mono fun e W' ⟨v,κ',he,hp⟩ => ?_
 have hb:Go.RowKit.Below W.heap.size W W':=⟨hp.fr.os,hp.fr.tape,hp.fr.out,hp.fr.size,fun k hk=>(hp.fr.kept k hk rfl).2⟩
 refine ⟨?_,XU hl uo ht hb,hb⟩;have hr:=hp.res;simp only [kW] at hr;obtain ⟨vs,e1,e2,e3⟩:=hr;rw [he];congr 1;simp only [bC,enc,aB,RC] at e3;cases vs with
 | nil=>simp at e2
 | cons y vs=>
  cases vs with
  | cons _ _=>simp at e2
  | nil=>
   simp only [uZ] at e3;cases v<;>simp [cellsOf] at e1<;>simp [e1,e3.1.1]
end
end Go.Fw
