/- A way of showing what a function computes: the blocks of the heap are owned by the places that hold them; this is a part of it. No conditions. -/
import Derived.Test.YtbdciplhpomakaaGreatG4
import Derived.ChangeOld
import Derived.ChangeSlices
import Derived.ChangeArms
import Derived.WideShapes
import Derived.Below
import Derived.Carry
import Derived.ChangeShapes
set_option linter.unusedVariables false
set_option linter.unusedSimpArgs false
set_option linter.unusedSectionVars false
namespace Go.Fw
mutual
def okV:(c:TY)->jm c->Prop
 | .b,_=>True
 | .i k,x=>(Lit.int k x).wf=true
 | .s,x=>ByteArray.size x<=maxLen
 | .sl e,x=>List.length x<=maxLen/\∀y,y∈(show List (aS e) from x)->nk e y
def nk:(cs:List TY)->aS cs->Prop
 | [],_=>True
 | [c],x=>okV c x
 | c::c'::cs,x=>okV c x.1/\nk (c'::cs) x.2
end
theorem Yu {c:TY} {cs:List TY} {x:jm c} {y:aS cs} (h:okV c x) (h':nk cs y):nk (c::cs) (mF x y):=by
 cases cs with
 | nil=>exact (by simpa [nk,mF] using h)
 | cons c' cs=>exact (by simp only [nk,mF];exact ⟨h,h'⟩)
theorem R7:∀{cs cs':List TY} {x:aS cs} {y:aS cs'},nk cs x->nk cs' y->nk (cs++cs') (R4 x y)
 | [],_,_,_,_,h=>h
 | [c],cs',x,y,h,h'=>Yu (c:=c) (x:=d9 x) (by simpa only [nk,d9] using h) (R7 (cs:=[]) (x:=()) trivial h')
 | c::c'::cs,cs',x,y,h,h'=>by
  simp only [nk] at h;exact Yu h.1 (R7 h.2 h')
mutual
def Ua (i:Nat):TY->CT
 | .sl e=>.sl (.ro [i]) (rW i e)
 | _=>.d
def rW (i:Nat):List TY->List CT
 | []=>[]
 | c::cs=>Ua i c::rW i cs
end
theorem Ha (i:Nat):∀ts:List TY,(rW i ts).length=ts.length
 | []=>rfl
 | _::ts=>by simp [rW,Ha i ts]
def WW (g:TypeId->Option (List TY)):Nat->List Field->Option (List TY)
 | _,[]=>some []
 | o,f::fs=>match g f.type with
  | some a=>match WW g (o+a.length) fs with
   | some b=>if f.offset=o then some (a++b) else none
   | none=>none
  | none=>none
def aae (P:Program) (g:TypeId->Option (List TY)) (t:TypeId):Option (List TY):=
 match P.underlying t with
 | some .bool=>some [.b]
 | some (.int k)=>some [.i k]
 | some .string=>some [.s]
 | some (.slice e)=>match g e with
  | some (c::cs)=>some [.sl (c::cs)]
  | _=>none
 | some (.struct fs)=>WW g 0 fs.toList
 | _=>none
def qi (P:Program):Nat->TypeId->Option (List TY)
 | 0,_=>none
 | f+1,t=>match aae P (qi P f) t with
  | some ts=>if P.cellsOf t=ts.length then some ts else none
  | none=>none
theorem afd {α:Type} {Q:Nat->α->Prop}:∀{n:Nat},(∀i,i<n->∃x,Q i x)->∃xs:List α,xs.length=n/\∀i x,xs[i]?=some x->Q i x
 | 0,_=>⟨[],rfl,fun i x h=>by simp at h⟩
 | n+1,h=>by
  obtain ⟨xs,h1,h2⟩:=afd (n:=n) fun i hi=>h i (by omega)
  obtain ⟨y,hy⟩:=h n (by omega);refine ⟨xs++[y],by simp [h1],fun i x hx => ?_⟩;by_cases hi:i<n
  ·rw [List.getElem?_append_left (by omega)] at hx;exact h2 i x hx
  ·have hl:=(aY hx).1;simp only [bq,aX,List.length_nil] at hl;have:i=n:=by omega
   subst this;rw [<-h1,List.getElem?_concat_length] at hx;cases hx;exact hy
theorem ajw {κ:aH} {w:World} {e:List CT} {p:Pl} {get:Nat->Value}:∀{xs:List (List A)} {j:Nat},(∀i x,xs[i]?=some x->ax κ w e p (j+i*e.length) get x)->bO κ w e p j get xs
 | [],_,_=>by simp [bO]
 | x::xs,j,h=>by
  simp only [bO];refine ⟨by simpa using h 0 x rfl,ajw fun i y hy => ?_⟩;have:=h (i+1) y (by simpa using hy);rw [show j+(i+1)*e.length=j+e.length+i*e.length from by rw [Nat.succ_mul];omega] at this;exact this
theorem afe {κ:aH} {w:World} {p:Pl} {get:Nat->Value}:∀{cs cs':List CT} {j:Nat} {as as':List A},ax κ w cs p j get as->ax κ w cs' p (j+cs.length) get as'->ax κ w (cs++cs') p j get (as++as')
 | [],_,_,as,_,h,h'=>by
  cases as with
  | nil=>simpa using h'
  | cons a as=>simp [ax] at h
 | c::cs,_,j,as,_,h,h'=>by
  cases as with
  | nil=>simp [ax] at h
  | cons a as=>
   simp only [ax] at h;simp only [List.cons_append,ax];refine ⟨h.1,afe h.2 ?_⟩;rw [show j+1+cs.length=j+(c::cs).length from by simp;omega];exact h'
theorem abr (i:Nat):∀(a b:List TY),rW i (a++b)=rW i a++rW i b
 | [],_=>rfl
 | c::a,b=>by simp [rW,abr i a b]
abbrev noC:aH:=fun _=>none
section
variable {H:Type} {enc':TypeId × Value->H} {P:Program} {w:World} {base:Nat} {spare:Nat->Bool} {held:Bool}
def Rd (w:World) (ts:List TY) (cs:List Value):Prop:=∃v:aS ts,nk ts v/\cs.length=ts.length/\∀(i:Nat) (p:Pl) (j:Nat) (get:Nat->Value),(∀k,k<cs.length->get (j+k)=cs.getD k undef)->ax noC w (rW i ts) p j get (aZ ts v)
theorem Mo {c:TY} {x:Value} {v:jm c} (h:okV c v) (hr:∀i p,RC noC w (Ua i c) p x (enc c v)):Rd w [c] [x]:=by
 refine ⟨v,by simpa only [nk] using h,rfl,fun i p j get hg => ?_⟩;simp only [rW,aZ,ax,and_true];have:=hg 0 (by simp);simp at this;rw [this];exact hr i _
theorem aff {g:TypeId->Option (List TY)} {F:TypeId->List Value->Prop} (hg:∀t ts cs,g t=some ts->F t cs->Rd w ts cs) (hlen:∀t ts,g t=some ts->P.cellsOf t=ts.length) :
  ∀{fs:List Field} {o:Nat} {ts:List TY} {cs:List Value},WW g o fs=some ts->cs.length=o+ts.length->(∀f,f∈fs->F f.type ((cs.drop f.offset).take (P.cellsOf f.type)))->Rd w ts (cs.drop o)
 | [],o,ts,cs,h,hl,_=>by
  simp only [WW,aF] at h;subst h;have:cs.drop o=[]:=by rw [List.drop_eq_nil_iff];simp at hl;omega
  rw [this];exact ⟨(),trivial,rfl,fun i p j get _=>by simp [rW,aZ,ax]⟩
 | f::fs,o,ts,cs,h,hl,hF=>by
  simp only [WW] at h;cases ha:g f.type with
  | none=>rw [ha] at h;simp at h
  | some a=>
   rw [ha] at h;simp only at h;cases hb:WW g (o+a.length) fs with
   | none=>rw [hb] at h;simp at h
   | some b=>
    rw [hb] at h;simp only at h;split at h
    ·rename_i ho;simp only [aF] at h;subst h;have h1:=hF f (by simp);rw [ho,hlen _ _ ha] at h1;obtain ⟨x,hx1,hx2,hx3⟩:=hg _ _ _ ha h1;obtain ⟨y,hy1,hy2,hy3⟩:=aff hg hlen hb (cs:=cs) (by rw [hl];simp;omega) fun f' hf'=>hF f' (by simp [hf'])
     refine ⟨R4 x y,R7 hx1 hy1,by simp [hl],fun i p j get hget => ?_⟩;rw [R5,abr];have e1:∀k,k<a.length->((cs.drop o).take a.length).getD k undef=(cs.drop o).getD k undef:=fun k hk=>by
      simp [List.getD,List.getElem?_take,hk]
     have e2:∀k,(cs.drop (o+a.length)).getD k undef=(cs.drop o).getD (a.length+k) undef:=fun k=>by
      simp [List.getD,List.getElem?_drop,Nat.add_assoc]
     have L:(cs.drop o).length=a.length+b.length:=by simp [hl]
     refine afe (hx3 i p j get fun k hk => ?_) (hy3 i p _ get fun k hk => ?_)
     ·rw [hx2] at hk;rw [e1 k hk];exact hget k (by omega)
     ·rw [hy2] at hk;rw [Ha,e2,Nat.add_assoc];exact hget _ (by omega)
    ·simp at h
theorem R8 {f:Nat} {t:TypeId} {ts:List TY} (h:qi P f t=some ts):P.cellsOf t=ts.length:=by
 cases f with
 | zero=>simp [qi] at h
 | succ f=>
  simp only [qi] at h;split at h
  ·split at h
   ·cases h;assumption
   ·simp at h
  ·simp at h
theorem WX:∀(f:Nat) {t:TypeId} {ts:List TY} {cs:List Value},qi P f t=some ts->(∃fuel x,DataW.trod enc' P w base spare held fuel t cs=some x)->Rd w ts cs
 | 0,_,_,_,h,_=>by simp [qi] at h
 | f+1,t,ts,cs,h,hx=>by
  obtain ⟨fuel,x,hx⟩:=hx
  have hlen:=R8 h
  simp only [qi] at h
  cases hr:aae P (qi P f) t with
  | none=>rw [hr] at h;simp at h
  | some ts'=>
   rw [hr] at h
   simp only at h
   split at h
   ·simp only [aF] at h
    subst h
    unfold aae at hr
    split at hr
    ·rename_i hu
     cases hr
     obtain ⟨b,rfl,_⟩:=DataW.trod_bool hu hx
     exact Mo (c:=.b) (v:=b) trivial fun i p=>by simp only [Ua,enc,RC];exact ⟨trivial,rfl⟩
    ·rename_i k hu
     cases hr
     obtain ⟨n,rfl,_,hw⟩:=DataW.trod_int hu hx
     exact Mo (c:=.i k) (v:=n) hw fun i p=>by simp only [Ua,enc,RC];exact ⟨trivial,rfl⟩
    ·rename_i hu
     cases hr
     obtain ⟨s,rfl,_,hw⟩:=DataW.trod_string hu hx
     exact Mo (c:=.s) (v:=s) hw fun i p=>by simp only [Ua,enc,RC];exact ⟨trivial,rfl⟩
    ·rename_i e hu
     cases he:qi P f e with
     | none=>rw [he] at hr;simp at hr
     | some es=>
      rw [he] at hr
      cases es with
      | nil=>simp at hr
      | cons c es=>
       simp only [aF] at hr
       subst hr
       rcases DataW.trod_slice hu hx with ⟨rfl,_⟩|⟨a,len,cap,elems,rest,n,_,rfl,_,hb,hl,hm,hel,hE,_⟩
       ·refine Mo (c:=.sl (c::es)) (v:=([]:List _)) ?_ fun i p => ?_
        ·simp only [okV];exact ⟨Nat.zero_le _,fun y hy=>by simp at hy⟩
        ·refine Eq.subst (motive:=fun z=>RC noC w (Ua i (.sl (c::es))) p _ z) (oW (e:=c::es) ([]:List _)).symm ?_
         simp only [Ua,List.map_nil,RC,Ar];exact ⟨none,0,rfl,Nat.le_refl _,.inl trivial⟩
       ·have hn:=R8 he
        have each:∀i,i<len->∃v:aS (c::es),nk _ v/\∃ci:List Value,ci.length=(c::es).length/\(∀k,k<ci.length->w.cell? ((a.add (i*P.cellsOf e)).add k)=some (ci.getD k undef)) /\
          ∀(r:Nat) (p:Pl) (j:Nat) (get:Nat->Value),(∀k,k<ci.length->get (j+k)=ci.getD k undef)->ax noC w (rW r (c::es)) p j get (aZ (c::es) v):=by
         intro i hi;have h1:=hE i hi;have h2:elems[i]?=some (elems[i]'(by omega)):=aR (by omega);rw [h2,Option.bind_eq_some_iff] at h1;obtain ⟨ci,h3,h4⟩:=h1;obtain ⟨v,hv1,hv2,hv3⟩:=WX f he ⟨_,_,h4⟩;obtain ⟨_,_,h5⟩:=World.cells?_some h3;refine ⟨v,hv1,ci,hv2,fun k hk => ?_,hv3⟩;rw [h5 k (by rw [hn,<-hv2];exact hk)];simp [List.getD,aR hk]
        obtain ⟨xs,hxl,hxs⟩:=afd each
        refine Mo (c:=.sl (c::es)) (v:=xs) ?_ fun i p => ?_
        ·simp only [okV]
         refine ⟨by rw [hxl];omega,fun y hy => ?_⟩
         obtain ⟨k,hk⟩:=List.getElem?_of_mem hy
         exact (hxs k y hk).1
        ·refine Eq.subst (motive:=fun z=>RC noC w (Ua i (.sl (c::es))) p _ z) (oW (e:=c::es) xs).symm ?_
         simp only [Ua,RC,Ar]
         refine ⟨some a,cap,by simp [hxl],by simpa [hxl] using hl,?_⟩
         cases hlz:len with
         | zero=>
          left
          have:xs=[]:=List.length_eq_zero_iff.1 (by omega)
          simp [this]
         | succ m=>
          right
          have hsp:a.spot=none/\a.block<w.heap.size:=by
           obtain ⟨_,_,ci,hci,hck,_⟩:=each 0 (by omega)
           have:=hck 0 (by simp [hci])
           simp only [Nat.zero_mul,Addr.add,if_pos] at this
           have hb:=World.block_lt_of_cell? w _ this
           refine ⟨?_,hb⟩
           unfold World.cell? at this
           split at this
           ·split at this
            ·cases this
            ·rename_i hs;simpa using hs
           ·cases this
          have hadd:∀i k,(a.add (i*P.cellsOf e)).add k=⟨a.block,a.off+(i*P.cellsOf e+k),none⟩:=by
           intro i k
           obtain ⟨ab,ao,asp⟩:=a
           simp only at hsp
           obtain ⟨rfl,_⟩:=hsp
           unfold Addr.add
           split
           ·split
            ·simp_all
            ·simp_all
           ·split
            ·simp_all
            ·simp_all [Nat.add_assoc]
          have hlen':(rW i (c::es)).length=(c::es).length:=Ha i _
          refine ⟨a.block,a.off,?_,⟨hsp.2,fun r q hq=>by cases hq⟩,?_,?_⟩
          ·obtain ⟨ab,ao,asp⟩:=a
           simp only at hsp
           rw [hsp.1]
          ·intro o h1 h2
           rw [hlen',<-hn] at h2
           simp only [List.length_map,hxl] at h2
           have hpos:0<P.cellsOf e:=by rw [hn];simp
           have hi:(o-a.off) / P.cellsOf e<len:=by
            rw [Nat.div_lt_iff_lt_mul hpos];omega
           obtain ⟨_,_,ci,hci,hck,_⟩:=each _ hi
           refine ⟨ci.getD ((o-a.off) % P.cellsOf e) undef,?_⟩
           have:=hck ((o-a.off) % P.cellsOf e) (by rw [hci,<-hn];exact Nat.mod_lt _ hpos)
           rw [hadd,Nat.mul_comm,Nat.div_add_mod,show a.off+(o-a.off)=o from by omega] at this
           exact this
          ·refine ajw fun k y hy => ?_
           simp only [List.getElem?_map,Option.map_eq_some_iff] at hy
           obtain ⟨v,hv,rfl⟩:=hy
           obtain ⟨_,ci,hci,hck,hrc⟩:=hxs k v hv
           refine hrc i p _ (fun j=>cellD w a.block (a.off+j)) fun q hq => ?_
           have:=hck q hq
           rw [hadd] at this
           unfold cellD
           rw [hlen',Nat.zero_add,<-hn,this]
           rfl
    ·rename_i fs hu
     obtain ⟨xs,n,_,_,hcl,hxl,hF⟩:=DataW.trod_struct hu hx
     have:=aff (P:=P) (w:=w) (g:=qi P f) (F:=fun t cs=>∃fuel x,DataW.trod enc' P w base spare held fuel t cs=some x) (fun t ts cs h1 h2=>WX f h1 h2) (fun t ts h=>R8 h) hr (cs:=cs) (by rw [hcl,hlen];simp) fun f' hf'=>by
      obtain ⟨k,hk⟩:=List.getElem?_of_mem hf'
      have h1:=hF k f' (by simpa using hk)
      have h2:xs[k]?=some (xs[k]'(by rw [hxl];have:=(aY hk).1;simpa using this)):=aR _
      rw [h2] at h1
      exact ⟨_,_,h1⟩
     simpa using this
    ·simp at hr
   ·simp at h
end
end Go.Fw
namespace Go.Fw
def He:(ps:List (List TY))->je ps->Prop
 | [],_=>True
 | [p],x=>nk p x
 | p::p'::ps,x=>nk p x.1/\He (p'::ps) x.2
theorem agL {p:List TY} {ps:List (List TY)} {x:aS p} {y:je ps} (h:nk p x) (h':He ps y):He (p::ps) (w9 x y):=by
 cases ps with
 | nil=>exact (by simpa [He,w9] using h)
 | cons c' cs=>exact (by simp only [He,w9];exact ⟨h,h'⟩)
def agT (P:Program) (t:TypeId):Bool:=match P.underlying t with
 | some (.struct _)=>true
 | _=>false
def F4 (P:Program):Nat->List PM->List (List TY)->List TypeId->Bool
 | _,[],[],[]=>true
 | i,.rd ag cs::pms,p::ps,t::ts=>CT.beqs (CT.roizes [i] cs) (rW i p)&&(match qi P 12 t with
  | some q=>TY.beqs q p
  | none=>false)&&(ag == agT P t)&&P.readableRec t&&decide (t<P.types.size)&&F4 P (i+1) pms ps ts
 | _,_,_,_=>false
section
variable {H:Type} {enc':TypeId × Value->H} {P:Program} {W:World}
theorem abu {t:TypeId} {x:Value} {base:Nat} (ht:∃q,qi P 12 t=some q) (h:Value.okWide P W .any base t x):cellsOf (agT P t) x=some x.cells.toList:=by
 obtain ⟨q,ht⟩:=ht;unfold qi aae at ht;unfold agT;cases hu:P.underlying t with
 | none=>rw [hu] at ht;simp at ht
 | some d=>
  rw [hu] at ht;unfold Value.okWide at h;rw [hu] at h;cases d with
  | struct fs=>
   obtain ⟨cs,rfl,_⟩:=h;rfl
  | bool=>obtain ⟨b,rfl⟩:=Go.WideShapes.okWide_bool (base:=base) (w:=W) (r:=.any) (v:=x) hu (by unfold Value.okWide;rw [hu];exact h);rfl
  | int k=>obtain ⟨b,rfl⟩:=Go.WideShapes.okWide_int (base:=base) (w:=W) (r:=.any) (v:=x) hu (by unfold Value.okWide;rw [hu];exact h);rfl
  | string=>obtain ⟨b,rfl⟩:=Go.WideShapes.okWide_string (base:=base) (w:=W) (r:=.any) (v:=x) hu (by unfold Value.okWide;rw [hu];exact h);rfl
  | slice e=>obtain ⟨a,b,c,rfl⟩:=Go.WideShapes.okWide_slice (base:=base) (w:=W) (r:=.any) (v:=x) hu (by unfold Value.okWide;rw [hu];exact h);rfl
  | _=>simp at ht
theorem afg:∀{pms:List PM} {ps:List (List TY)} {ts:List TypeId} {i:Nat} {vs:List Value} {ds:List (DataW H)} {mp:List MemPlace} {base:Nat},F4 P i pms ps ts=true ->
  (∀(j:Nat) t v,ts[j]?=some t->vs[j]?=some v->Value.okWide P W .any base t v)->DataW.TrodAll enc' P W 0 (fun _=>true) true ts vs ds mp ->
  ∃xs:je ps,He ps xs/\vs.length=pms.length/\(mG ps xs).length=pms.length/\∀k pm x as,pms[k]?=some pm->vs[k]?=some x->(mG ps xs)[k]?=some as->lq noC W (i+k) x as pm
 | [],ps,ts,i,vs,ds,mp,base,h,hv,ht=>by
  cases ps<;>cases ts<;>simp [F4] at h;cases vs with
  | nil=>exact ⟨(),trivial,rfl,rfl,fun k pm x as h=>by simp at h⟩
  | cons v vs=>cases ds<;>simp [DataW.TrodAll] at ht
 | pm::pms,ps,ts,i,vs,ds,mp,base,h,hv,ht=>by
  cases ps with
  | nil=>cases pm<;>simp [F4] at h
  | cons p ps=>
   cases ts with
   | nil=>cases pm<;>simp [F4] at h
   | cons t ts=>
    cases pm with
    | rd ag cs=>
     simp only [F4,aG] at h;obtain ⟨⟨⟨⟨⟨h1,h2⟩,h3⟩,_⟩,_⟩,h6⟩:=h;cases hq:qi P 12 t with
     | none=>rw [hq] at h2;simp at h2
     | some q=>
      rw [hq] at h2;simp only at h2;have hq':qi P 12 t=some p:=by rw [hq,TY.beqs_eq h2]
      cases vs with
      | nil=>cases ds<;>simp [DataW.TrodAll] at ht
      | cons v vs=>
       cases ds with
       | nil=>simp [DataW.TrodAll] at ht
       | cons d ds=>
        obtain ⟨mp1,mp2,⟨fu,ht1⟩,ht2,_⟩:=ht;obtain ⟨x,hx1,hx2,hx3⟩:=WX 12 hq' ⟨_,_,ht1⟩;obtain ⟨xs,hs1,hs2,hs3,hs4⟩:=afg h6 (fun j t v h1 h2=>hv (j+1) t v (by simpa using h1) (by simpa using h2)) ht2;have hc:=abu ⟨_,hq⟩ (hv 0 t v rfl rfl);have hag:ag=agT P t:=by simpa using h3
        have hcs:=CT.beqs_eq h1;refine ⟨w9 x xs,agL hx1 hs1,by simp [hs2],by rw [G8];simp [hs3],fun k pm y as e1 e2 e3 => ?_⟩;rw [G8] at e3;cases k with
        | zero=>
         simp only [List.getElem?_cons_zero,aF] at e1 e2 e3;subst e1 e2 e3;refine ⟨_,hag▸hc,?_,?_⟩
         ·rw [hx2,<-Ha i p,<-hcs,bQ]
         ·rw [Nat.add_zero,hcs];exact hx3 i _ 0 _ fun k hk=>by rw [Nat.zero_add]
        | succ k=>
         simp only [List.getElem?_cons_succ] at e1 e2 e3;have:=hs4 k pm y as e1 e2 e3;rw [show i+(k+1)=i+1+k from by omega];exact this
    | _=>simp [F4] at h
theorem Ub (hl:laidOutB P=true):∀{pms:List PM} {ps:List (List TY)} {ts:List TypeId} {i:Nat} {vs:List Value} {ds:List (DataW H)} {mp:List MemPlace} {W':World},F4 P i pms ps ts=true ->
  DataW.TrodAll enc' P W 0 (fun _=>true) true ts vs ds mp->Go.RowKit.Below W.heap.size W W'->DataW.TrodAll enc' P W' 0 (fun b=>decide (b<W.heap.size)) true ts vs ds mp
 | pms,ps,[],i,vs,ds,mp,W',h,ht,hb=>by
  cases vs<;>cases ds<;>simp [DataW.TrodAll] at ht ⊢;exact ht
 | pms,ps,t::ts,i,vs,ds,mp,W',h,ht,hb=>by
  cases pms with
  | nil=>cases ps<;>simp [F4] at h
  | cons pm pms=>
   cases ps with
   | nil=>cases pm<;>simp [F4] at h
   | cons p ps=>
    cases pm with
    | rd ag cs=>
     simp only [F4,aG,decide_eq_true_eq] at h;obtain ⟨⟨⟨⟨⟨_,_⟩,_⟩,h4⟩,h5⟩,h6⟩:=h;cases vs with
     | nil=>cases ds<;>simp [DataW.TrodAll] at ht
     | cons v vs=>
      cases ds with
      | nil=>simp [DataW.TrodAll] at ht
      | cons d ds=>
       obtain ⟨mp1,mp2,ht1,ht2,rfl⟩:=ht;refine ⟨mp1,mp2,?_,Ub hl h6 ht2 hb,rfl⟩;refine Go.RowKit.Below.trod hl h4 h5 ht1 hb ?_;obtain ⟨m,hm⟩:=ht1;exact DataW.trod_lt m _ _ _ hm
    | _=>simp [F4] at h
theorem ajx {K:FuncId} {sg:aI} {ps:List (List TY)} {g:je ps->Option (aS [.b] × aS [])} (hok:TSp.Ok P K ⟨sg,ps,[.b],[],0,g⟩) (hres:sg.res = .one false [.d])
  {ts:List TypeId} (hsh:F4 P 0 sg.ps ps ts=true) (hl:laidOutB P=true) {args:Array Value} {ds:List (DataW H)} {mp:List MemPlace} {base:Nat}
  (hv:∀(j:Nat) t v,ts[j]?=some t->args[j]?=some v->Value.okWide P W .any base t v) (ht:DataW.TrodAll enc' P W 0 (fun _=>true) true ts args.toList ds mp)
  (hg:∀xs,He ps xs->g xs=some (true,())) :
  Calls P K args W fun e W'=>e = .returned (.bool true)/\DataW.TrodAll enc' P W' 0 (fun b=>decide (b<W.heap.size)) true ts args.toList ds mp/\Go.RowKit.Below W.heap.size W W':=by
 obtain ⟨xs,h1,h2,h3,h4⟩:=afg hsh (fun j t v h1 h2=>hv j t v h1 (by simpa using h2)) ht;have:=hok xs _ _ (hg xs h1) noC W args.toList (fun _ _=>rfl) (fun b r q h=>by cases h) h2 h3 (fun i pm x as e1 e2 e3=>by simpa using h4 i pm x as e1 e2 e3);rw [Array.toArray_toList] at this;refine this.mono fun e W' ⟨v,κ',he,hp⟩ => ?_
 have hb:Go.RowKit.Below W.heap.size W W':=⟨hp.fr.os,hp.fr.tape,hp.fr.out,hp.fr.size,fun k hk=>(hp.fr.kept k hk rfl).2⟩
 refine ⟨?_,Ub hl hsh ht hb,hb⟩;have hr:=hp.res;simp only [hres] at hr;obtain ⟨vs,e1,e2,e3⟩:=hr;rw [he];congr 1;simp only [aZ,enc,ax,RC] at e3;cases vs with
 | nil=>simp at e2
 | cons y vs=>
  cases vs with
  | cons _ _=>simp at e2
  | nil=>
   simp only [List.getD_cons_zero] at e3;cases v<;>simp [cellsOf] at e1<;>simp [e1,e3.1.1]
end
end Go.Fw
