/- A way of showing what a function computes: the blocks of the heap are owned by the places that hold them; this is a part of it. No conditions. -/
import Derived.Test.YtlolhpdimikcdaaGreatG4
import Derived.ChangeOld
import Derived.ChangeSlices
import Derived.ChangeArms
import Derived.WideShapes
import Derived.Below
import Derived.Carry
import Derived.ChangeShapes
set_option linter.unusedVariables false
set_option linter.unusedSimpArgs false
set_option linter.unusedSectionVars false
namespace Go.Fw
mutual
def okV:(c:TY)->den c->Prop
 | .b,_=>True
 | .i k,x=>(Lit.int k x).wf=true
 | .s,x=>ByteArray.size x<=maxLen
 | .sl e,x=>List.length x<=maxLen/\∀y,y∈(show List (denL e) from x)->okVL e y
def okVL:(cs:List TY)->denL cs->Prop
 | [],_=>True
 | [c],x=>okV c x
 | c::c'::cs,x=>okV c x.1/\okVL (c'::cs) x.2
end
theorem okVL_cons {c:TY} {cs:List TY} {x:den c} {y:denL cs} (h:okV c x) (h':okVL cs y):okVL (c::cs) (consL x y):=by
 cases cs with
 | nil=>exact (by simpa [okVL,consL] using h)
 | cons c' cs=>exact (by simp only [okVL,consL];exact ⟨h,h'⟩)
theorem okVL_app:∀{cs cs':List TY} {x:denL cs} {y:denL cs'},okVL cs x->okVL cs' y->okVL (cs++cs') (appL x y)
 | [],_,_,_,_,h=>h
 | [c],cs',x,y,h,h'=>okVL_cons (c:=c) (x:=headL x) (by simpa only [okVL,headL] using h) (okVL_app (cs:=[]) (x:=()) trivial h')
 | c::c'::cs,cs',x,y,h,h'=>by
  simp only [okVL] at h;exact okVL_cons h.1 (okVL_app h.2 h')
mutual
def roT (i:Nat):TY->CT
 | .sl e=>.sl (.ro [i]) (roTs i e)
 | _=>.d
def roTs (i:Nat):List TY->List CT
 | []=>[]
 | c::cs=>roT i c::roTs i cs
end
theorem roTs_len (i:Nat):∀ts:List TY,(roTs i ts).length=ts.length
 | []=>rfl
 | _::ts=>by simp [roTs,roTs_len i ts]
def tyFs (g:TypeId->Option (List TY)):Nat->List Field->Option (List TY)
 | _,[]=>some []
 | o,f::fs=>match g f.type with
  | some a=>match tyFs g (o+a.length) fs with
   | some b=>if f.offset=o then some (a++b) else none
   | none=>none
  | none=>none
def tyRaw (P:Program) (g:TypeId->Option (List TY)) (t:TypeId):Option (List TY):=
 match P.underlying t with
 | some .bool=>some [.b]
 | some (.int k)=>some [.i k]
 | some .string=>some [.s]
 | some (.slice e)=>match g e with
  | some (c::cs)=>some [.sl (c::cs)]
  | _=>none
 | some (.struct fs)=>tyFs g 0 fs.toList
 | _=>none
def tyOf (P:Program):Nat->TypeId->Option (List TY)
 | 0,_=>none
 | f+1,t=>match tyRaw P (tyOf P f) t with
  | some ts=>if P.cellsOf t=ts.length then some ts else none
  | none=>none
theorem list_of {α:Type} {Q:Nat->α->Prop}:∀{n:Nat},(∀i,i<n->∃x,Q i x)->∃xs:List α,xs.length=n/\∀i x,xs[i]?=some x->Q i x
 | 0,_=>⟨[],rfl,fun i x h=>by simp at h⟩
 | n+1,h=>by
  obtain ⟨xs,h1,h2⟩:=list_of (n:=n) fun i hi=>h i (by omega)
  obtain ⟨y,hy⟩:=h n (by omega);refine ⟨xs++[y],by simp [h1],fun i x hx => ?_⟩;by_cases hi:i<n
  ·rw [List.getElem?_append_left (by omega)] at hx;exact h2 i x hx
  ·have hl:=(List.getElem?_eq_some_iff.1 hx).1;simp only [List.length_append,List.length_cons,List.length_nil] at hl;have:i=n:=by omega
   subst this;rw [<-h1,List.getElem?_concat_length] at hx;cases hx;exact hy
theorem RCE_of {κ:Col} {w:World} {e:List CT} {p:Pl} {get:Nat->Value}:∀{xs:List (List A)} {j:Nat},(∀i x,xs[i]?=some x->RCL κ w e p (j+i*e.length) get x)->RCE κ w e p j get xs
 | [],_,_=>by simp [RCE]
 | x::xs,j,h=>by
  simp only [RCE];refine ⟨by simpa using h 0 x rfl,RCE_of fun i y hy => ?_⟩;have:=h (i+1) y (by simpa using hy);rw [show j+(i+1)*e.length=j+e.length+i*e.length from by rw [Nat.succ_mul];omega] at this;exact this
theorem RCL_app {κ:Col} {w:World} {p:Pl} {get:Nat->Value}:∀{cs cs':List CT} {j:Nat} {as as':List A},RCL κ w cs p j get as->RCL κ w cs' p (j+cs.length) get as'->RCL κ w (cs++cs') p j get (as++as')
 | [],_,_,as,_,h,h'=>by
  cases as with
  | nil=>simpa using h'
  | cons a as=>simp [RCL] at h
 | c::cs,_,j,as,_,h,h'=>by
  cases as with
  | nil=>simp [RCL] at h
  | cons a as=>
   simp only [RCL] at h;simp only [List.cons_append,RCL];refine ⟨h.1,RCL_app h.2 ?_⟩;rw [show j+1+cs.length=j+(c::cs).length from by simp;omega];exact h'
theorem roTs_app (i:Nat):∀(a b:List TY),roTs i (a++b)=roTs i a++roTs i b
 | [],_=>rfl
 | c::a,b=>by simp [roTs,roTs_app i a b]
abbrev noC:Col:=fun _=>none
section
variable {H:Type} {enc':TypeId × Value->H} {P:Program} {w:World} {base:Nat} {spare:Nat->Bool} {held:Bool}
def Rd (w:World) (ts:List TY) (cs:List Value):Prop:=∃v:denL ts,okVL ts v/\cs.length=ts.length/\∀(i:Nat) (p:Pl) (j:Nat) (get:Nat->Value),(∀k,k<cs.length->get (j+k)=cs.getD k undef)->RCL noC w (roTs i ts) p j get (encL ts v)
theorem Rd_one {c:TY} {x:Value} {v:den c} (h:okV c v) (hr:∀i p,RC noC w (roT i c) p x (enc c v)):Rd w [c] [x]:=by
 refine ⟨v,by simpa only [okVL] using h,rfl,fun i p j get hg => ?_⟩;simp only [roTs,encL,RCL,and_true];have:=hg 0 (by simp);simp at this;rw [this];exact hr i _
theorem tyFs_ok {g:TypeId->Option (List TY)} {F:TypeId->List Value->Prop} (hg:∀t ts cs,g t=some ts->F t cs->Rd w ts cs) (hlen:∀t ts,g t=some ts->P.cellsOf t=ts.length) :
  ∀{fs:List Field} {o:Nat} {ts:List TY} {cs:List Value},tyFs g o fs=some ts->cs.length=o+ts.length->(∀f,f∈fs->F f.type ((cs.drop f.offset).take (P.cellsOf f.type)))->Rd w ts (cs.drop o)
 | [],o,ts,cs,h,hl,_=>by
  simp only [tyFs,Option.some.injEq] at h;subst h;have:cs.drop o=[]:=by rw [List.drop_eq_nil_iff];simp at hl;omega
  rw [this];exact ⟨(),trivial,rfl,fun i p j get _=>by simp [roTs,encL,RCL]⟩
 | f::fs,o,ts,cs,h,hl,hF=>by
  simp only [tyFs] at h;cases ha:g f.type with
  | none=>rw [ha] at h;simp at h
  | some a=>
   rw [ha] at h;simp only at h;cases hb:tyFs g (o+a.length) fs with
   | none=>rw [hb] at h;simp at h
   | some b=>
    rw [hb] at h;simp only at h;split at h
    ·rename_i ho;simp only [Option.some.injEq] at h;subst h;have h1:=hF f (by simp);rw [ho,hlen _ _ ha] at h1;obtain ⟨x,hx1,hx2,hx3⟩:=hg _ _ _ ha h1;obtain ⟨y,hy1,hy2,hy3⟩:=tyFs_ok hg hlen hb (cs:=cs) (by rw [hl];simp;omega) fun f' hf'=>hF f' (by simp [hf'])
     refine ⟨appL x y,okVL_app hx1 hy1,by simp [hl],fun i p j get hget => ?_⟩;rw [appL_enc,roTs_app];have e1:∀k,k<a.length->((cs.drop o).take a.length).getD k undef=(cs.drop o).getD k undef:=fun k hk=>by
      simp [List.getD,List.getElem?_take,hk]
     have e2:∀k,(cs.drop (o+a.length)).getD k undef=(cs.drop o).getD (a.length+k) undef:=fun k=>by
      simp [List.getD,List.getElem?_drop,Nat.add_assoc]
     have L:(cs.drop o).length=a.length+b.length:=by simp [hl]
     refine RCL_app (hx3 i p j get fun k hk => ?_) (hy3 i p _ get fun k hk => ?_)
     ·rw [hx2] at hk;rw [e1 k hk];exact hget k (by omega)
     ·rw [hy2] at hk;rw [roTs_len,e2,Nat.add_assoc];exact hget _ (by omega)
    ·simp at h
theorem tyOf_len {f:Nat} {t:TypeId} {ts:List TY} (h:tyOf P f t=some ts):P.cellsOf t=ts.length:=by
 cases f with
 | zero=>simp [tyOf] at h
 | succ f=>
  simp only [tyOf] at h;split at h
  ·split at h
   ·cases h;assumption
   ·simp at h
  ·simp at h
theorem trod_Rd:∀(f:Nat) {t:TypeId} {ts:List TY} {cs:List Value},tyOf P f t=some ts->(∃fuel x,DataW.trod enc' P w base spare held fuel t cs=some x)->Rd w ts cs
 | 0,_,_,_,h,_=>by simp [tyOf] at h
 | f+1,t,ts,cs,h,hx=>by
  obtain ⟨fuel,x,hx⟩:=hx
  have hlen:=tyOf_len h
  simp only [tyOf] at h
  cases hr:tyRaw P (tyOf P f) t with
  | none=>rw [hr] at h;simp at h
  | some ts'=>
   rw [hr] at h
   simp only at h
   split at h
   ·simp only [Option.some.injEq] at h
    subst h
    unfold tyRaw at hr
    split at hr
    ·rename_i hu
     cases hr
     obtain ⟨b,rfl,_⟩:=DataW.trod_bool hu hx
     exact Rd_one (c:=.b) (v:=b) trivial fun i p=>by simp only [roT,enc,RC];exact ⟨trivial,rfl⟩
    ·rename_i k hu
     cases hr
     obtain ⟨n,rfl,_,hw⟩:=DataW.trod_int hu hx
     exact Rd_one (c:=.i k) (v:=n) hw fun i p=>by simp only [roT,enc,RC];exact ⟨trivial,rfl⟩
    ·rename_i hu
     cases hr
     obtain ⟨s,rfl,_,hw⟩:=DataW.trod_string hu hx
     exact Rd_one (c:=.s) (v:=s) hw fun i p=>by simp only [roT,enc,RC];exact ⟨trivial,rfl⟩
    ·rename_i e hu
     cases he:tyOf P f e with
     | none=>rw [he] at hr;simp at hr
     | some es=>
      rw [he] at hr
      cases es with
      | nil=>simp at hr
      | cons c es=>
       simp only [Option.some.injEq] at hr
       subst hr
       rcases DataW.trod_slice hu hx with ⟨rfl,_⟩|⟨a,len,cap,elems,rest,n,_,rfl,_,hb,hl,hm,hel,hE,_⟩
       ·refine Rd_one (c:=.sl (c::es)) (v:=([]:List _)) ?_ fun i p => ?_
        ·simp only [okV];exact ⟨Nat.zero_le _,fun y hy=>by simp at hy⟩
        ·refine Eq.subst (motive:=fun z=>RC noC w (roT i (.sl (c::es))) p _ z) (enc_sl (e:=c::es) ([]:List _)).symm ?_
         simp only [roT,List.map_nil,RC,lst];exact ⟨none,0,rfl,Nat.le_refl _,.inl trivial⟩
       ·have hn:=tyOf_len he
        have each:∀i,i<len->∃v:denL (c::es),okVL _ v/\∃ci:List Value,ci.length=(c::es).length/\(∀k,k<ci.length->w.cell? ((a.add (i*P.cellsOf e)).add k)=some (ci.getD k undef)) /\
          ∀(r:Nat) (p:Pl) (j:Nat) (get:Nat->Value),(∀k,k<ci.length->get (j+k)=ci.getD k undef)->RCL noC w (roTs r (c::es)) p j get (encL (c::es) v):=by
         intro i hi;have h1:=hE i hi;have h2:elems[i]?=some (elems[i]'(by omega)):=List.getElem?_eq_getElem (by omega);rw [h2,Option.bind_eq_some_iff] at h1;obtain ⟨ci,h3,h4⟩:=h1;obtain ⟨v,hv1,hv2,hv3⟩:=trod_Rd f he ⟨_,_,h4⟩;obtain ⟨_,_,h5⟩:=World.cells?_some h3;refine ⟨v,hv1,ci,hv2,fun k hk => ?_,hv3⟩;rw [h5 k (by rw [hn,<-hv2];exact hk)];simp [List.getD,List.getElem?_eq_getElem hk]
        obtain ⟨xs,hxl,hxs⟩:=list_of each
        refine Rd_one (c:=.sl (c::es)) (v:=xs) ?_ fun i p => ?_
        ·simp only [okV]
         refine ⟨by rw [hxl];omega,fun y hy => ?_⟩
         obtain ⟨k,hk⟩:=List.getElem?_of_mem hy
         exact (hxs k y hk).1
        ·refine Eq.subst (motive:=fun z=>RC noC w (roT i (.sl (c::es))) p _ z) (enc_sl (e:=c::es) xs).symm ?_
         simp only [roT,RC,lst]
         refine ⟨some a,cap,by simp [hxl],by simpa [hxl] using hl,?_⟩
         cases hlz:len with
         | zero=>
          left
          have:xs=[]:=List.length_eq_zero_iff.1 (by omega)
          simp [this]
         | succ m=>
          right
          have hsp:a.spot=none/\a.block<w.heap.size:=by
           obtain ⟨_,_,ci,hci,hck,_⟩:=each 0 (by omega)
           have:=hck 0 (by simp [hci])
           simp only [Nat.zero_mul,Addr.add,if_pos] at this
           have hb:=World.block_lt_of_cell? w _ this
           refine ⟨?_,hb⟩
           unfold World.cell? at this
           split at this
           ·split at this
            ·cases this
            ·rename_i hs;simpa using hs
           ·cases this
          have hadd:∀i k,(a.add (i*P.cellsOf e)).add k=⟨a.block,a.off+(i*P.cellsOf e+k),none⟩:=by
           intro i k
           obtain ⟨ab,ao,asp⟩:=a
           simp only at hsp
           obtain ⟨rfl,_⟩:=hsp
           unfold Addr.add
           split
           ·split
            ·simp_all
            ·simp_all
           ·split
            ·simp_all
            ·simp_all [Nat.add_assoc]
          have hlen':(roTs i (c::es)).length=(c::es).length:=roTs_len i _
          refine ⟨a.block,a.off,?_,⟨hsp.2,fun r q hq=>by cases hq⟩,?_,?_⟩
          ·obtain ⟨ab,ao,asp⟩:=a
           simp only at hsp
           rw [hsp.1]
          ·intro o h1 h2
           rw [hlen',<-hn] at h2
           simp only [List.length_map,hxl] at h2
           have hpos:0<P.cellsOf e:=by rw [hn];simp
           have hi:(o-a.off) / P.cellsOf e<len:=by
            rw [Nat.div_lt_iff_lt_mul hpos];omega
           obtain ⟨_,_,ci,hci,hck,_⟩:=each _ hi
           refine ⟨ci.getD ((o-a.off) % P.cellsOf e) undef,?_⟩
           have:=hck ((o-a.off) % P.cellsOf e) (by rw [hci,<-hn];exact Nat.mod_lt _ hpos)
           rw [hadd,Nat.mul_comm,Nat.div_add_mod,show a.off+(o-a.off)=o from by omega] at this
           exact this
          ·refine RCE_of fun k y hy => ?_
           simp only [List.getElem?_map,Option.map_eq_some_iff] at hy
           obtain ⟨v,hv,rfl⟩:=hy
           obtain ⟨_,ci,hci,hck,hrc⟩:=hxs k v hv
           refine hrc i p _ (fun j=>cellD w a.block (a.off+j)) fun q hq => ?_
           have:=hck q hq
           rw [hadd] at this
           unfold cellD
           rw [hlen',Nat.zero_add,<-hn,this]
           rfl
    ·rename_i fs hu
     obtain ⟨xs,n,_,_,hcl,hxl,hF⟩:=DataW.trod_struct hu hx
     have:=tyFs_ok (P:=P) (w:=w) (g:=tyOf P f) (F:=fun t cs=>∃fuel x,DataW.trod enc' P w base spare held fuel t cs=some x) (fun t ts cs h1 h2=>trod_Rd f h1 h2) (fun t ts h=>tyOf_len h) hr (cs:=cs) (by rw [hcl,hlen];simp) fun f' hf'=>by
      obtain ⟨k,hk⟩:=List.getElem?_of_mem hf'
      have h1:=hF k f' (by simpa using hk)
      have h2:xs[k]?=some (xs[k]'(by rw [hxl];have:=(List.getElem?_eq_some_iff.1 hk).1;simpa using this)):=List.getElem?_eq_getElem _
      rw [h2] at h1
      exact ⟨_,_,h1⟩
     simpa using this
    ·simp at hr
   ·simp at h
end
end Go.Fw
namespace Go.Fw
def okVLL:(ps:List (List TY))->denLL ps->Prop
 | [],_=>True
 | [p],x=>okVL p x
 | p::p'::ps,x=>okVL p x.1/\okVLL (p'::ps) x.2
theorem okVLL_cons {p:List TY} {ps:List (List TY)} {x:denL p} {y:denLL ps} (h:okVL p x) (h':okVLL ps y):okVLL (p::ps) (consLL x y):=by
 cases ps with
 | nil=>exact (by simpa [okVLL,consLL] using h)
 | cons c' cs=>exact (by simp only [okVLL,consLL];exact ⟨h,h'⟩)
def agT (P:Program) (t:TypeId):Bool:=match P.underlying t with
 | some (.struct _)=>true
 | _=>false
def shB (P:Program):Nat->List PM->List (List TY)->List TypeId->Bool
 | _,[],[],[]=>true
 | i,.rd ag cs::pms,p::ps,t::ts=>CT.beqs (CT.roizes [i] cs) (roTs i p)&&(match tyOf P 12 t with
  | some q=>TY.beqs q p
  | none=>false)&&(ag == agT P t)&&P.readableRec t&&decide (t<P.types.size)&&shB P (i+1) pms ps ts
 | _,_,_,_=>false
section
variable {H:Type} {enc':TypeId × Value->H} {P:Program} {W:World}
theorem cellsOf_wide {t:TypeId} {x:Value} {base:Nat} (ht:∃q,tyOf P 12 t=some q) (h:Value.okWide P W .any base t x):cellsOf (agT P t) x=some x.cells.toList:=by
 obtain ⟨q,ht⟩:=ht;unfold tyOf tyRaw at ht;unfold agT;cases hu:P.underlying t with
 | none=>rw [hu] at ht;simp at ht
 | some d=>
  rw [hu] at ht;unfold Value.okWide at h;rw [hu] at h;cases d with
  | struct fs=>
   obtain ⟨cs,rfl,_⟩:=h;rfl
  | bool=>obtain ⟨b,rfl⟩:=Go.WideShapes.okWide_bool (base:=base) (w:=W) (r:=.any) (v:=x) hu (by unfold Value.okWide;rw [hu];exact h);rfl
  | int k=>obtain ⟨b,rfl⟩:=Go.WideShapes.okWide_int (base:=base) (w:=W) (r:=.any) (v:=x) hu (by unfold Value.okWide;rw [hu];exact h);rfl
  | string=>obtain ⟨b,rfl⟩:=Go.WideShapes.okWide_string (base:=base) (w:=W) (r:=.any) (v:=x) hu (by unfold Value.okWide;rw [hu];exact h);rfl
  | slice e=>obtain ⟨a,b,c,rfl⟩:=Go.WideShapes.okWide_slice (base:=base) (w:=W) (r:=.any) (v:=x) hu (by unfold Value.okWide;rw [hu];exact h);rfl
  | _=>simp at ht
theorem args_of:∀{pms:List PM} {ps:List (List TY)} {ts:List TypeId} {i:Nat} {vs:List Value} {ds:List (DataW H)} {mp:List MemPlace} {base:Nat},shB P i pms ps ts=true ->
  (∀(j:Nat) t v,ts[j]?=some t->vs[j]?=some v->Value.okWide P W .any base t v)->DataW.TrodAll enc' P W 0 (fun _=>true) true ts vs ds mp ->
  ∃xs:denLL ps,okVLL ps xs/\vs.length=pms.length/\(encLL ps xs).length=pms.length/\∀k pm x as,pms[k]?=some pm->vs[k]?=some x->(encLL ps xs)[k]?=some as->ArgR noC W (i+k) x as pm
 | [],ps,ts,i,vs,ds,mp,base,h,hv,ht=>by
  cases ps<;>cases ts<;>simp [shB] at h;cases vs with
  | nil=>exact ⟨(),trivial,rfl,rfl,fun k pm x as h=>by simp at h⟩
  | cons v vs=>cases ds<;>simp [DataW.TrodAll] at ht
 | pm::pms,ps,ts,i,vs,ds,mp,base,h,hv,ht=>by
  cases ps with
  | nil=>cases pm<;>simp [shB] at h
  | cons p ps=>
   cases ts with
   | nil=>cases pm<;>simp [shB] at h
   | cons t ts=>
    cases pm with
    | rd ag cs=>
     simp only [shB,Bool.and_eq_true] at h;obtain ⟨⟨⟨⟨⟨h1,h2⟩,h3⟩,_⟩,_⟩,h6⟩:=h;cases hq:tyOf P 12 t with
     | none=>rw [hq] at h2;simp at h2
     | some q=>
      rw [hq] at h2;simp only at h2;have hq':tyOf P 12 t=some p:=by rw [hq,TY.beqs_eq h2]
      cases vs with
      | nil=>cases ds<;>simp [DataW.TrodAll] at ht
      | cons v vs=>
       cases ds with
       | nil=>simp [DataW.TrodAll] at ht
       | cons d ds=>
        obtain ⟨mp1,mp2,⟨fu,ht1⟩,ht2,_⟩:=ht;obtain ⟨x,hx1,hx2,hx3⟩:=trod_Rd 12 hq' ⟨_,_,ht1⟩;obtain ⟨xs,hs1,hs2,hs3,hs4⟩:=args_of h6 (fun j t v h1 h2=>hv (j+1) t v (by simpa using h1) (by simpa using h2)) ht2;have hc:=cellsOf_wide ⟨_,hq⟩ (hv 0 t v rfl rfl);have hag:ag=agT P t:=by simpa using h3
        have hcs:=CT.beqs_eq h1;refine ⟨consLL x xs,okVLL_cons hx1 hs1,by simp [hs2],by rw [encLL_cons];simp [hs3],fun k pm y as e1 e2 e3 => ?_⟩;rw [encLL_cons] at e3;cases k with
        | zero=>
         simp only [List.getElem?_cons_zero,Option.some.injEq] at e1 e2 e3;subst e1 e2 e3;refine ⟨_,hag▸hc,?_,?_⟩
         ·rw [hx2,<-roTs_len i p,<-hcs,roizes_length]
         ·rw [Nat.add_zero,hcs];exact hx3 i _ 0 _ fun k hk=>by rw [Nat.zero_add]
        | succ k=>
         simp only [List.getElem?_cons_succ] at e1 e2 e3;have:=hs4 k pm y as e1 e2 e3;rw [show i+(k+1)=i+1+k from by omega];exact this
    | _=>simp [shB] at h
theorem args_after (hl:laidOutB P=true):∀{pms:List PM} {ps:List (List TY)} {ts:List TypeId} {i:Nat} {vs:List Value} {ds:List (DataW H)} {mp:List MemPlace} {W':World},shB P i pms ps ts=true ->
  DataW.TrodAll enc' P W 0 (fun _=>true) true ts vs ds mp->Go.RowKit.Below W.heap.size W W'->DataW.TrodAll enc' P W' 0 (fun b=>decide (b<W.heap.size)) true ts vs ds mp
 | pms,ps,[],i,vs,ds,mp,W',h,ht,hb=>by
  cases vs<;>cases ds<;>simp [DataW.TrodAll] at ht ⊢;exact ht
 | pms,ps,t::ts,i,vs,ds,mp,W',h,ht,hb=>by
  cases pms with
  | nil=>cases ps<;>simp [shB] at h
  | cons pm pms=>
   cases ps with
   | nil=>cases pm<;>simp [shB] at h
   | cons p ps=>
    cases pm with
    | rd ag cs=>
     simp only [shB,Bool.and_eq_true,decide_eq_true_eq] at h;obtain ⟨⟨⟨⟨⟨_,_⟩,_⟩,h4⟩,h5⟩,h6⟩:=h;cases vs with
     | nil=>cases ds<;>simp [DataW.TrodAll] at ht
     | cons v vs=>
      cases ds with
      | nil=>simp [DataW.TrodAll] at ht
      | cons d ds=>
       obtain ⟨mp1,mp2,ht1,ht2,rfl⟩:=ht;refine ⟨mp1,mp2,?_,args_after hl h6 ht2 hb,rfl⟩;refine Go.RowKit.Below.trod hl h4 h5 ht1 hb ?_;obtain ⟨m,hm⟩:=ht1;exact DataW.trod_lt m _ _ _ hm
    | _=>simp [shB] at h
theorem law_calls {K:FuncId} {sg:Sig} {ps:List (List TY)} {g:denLL ps->Option (denL [.b] × denL [])} (hok:TSp.Ok P K ⟨sg,ps,[.b],[],0,g⟩) (hres:sg.res = .one false [.d])
  {ts:List TypeId} (hsh:shB P 0 sg.ps ps ts=true) (hl:laidOutB P=true) {args:Array Value} {ds:List (DataW H)} {mp:List MemPlace} {base:Nat}
  (hv:∀(j:Nat) t v,ts[j]?=some t->args[j]?=some v->Value.okWide P W .any base t v) (ht:DataW.TrodAll enc' P W 0 (fun _=>true) true ts args.toList ds mp)
  (hg:∀xs,okVLL ps xs->g xs=some (true,())) :
  Calls P K args W fun e W'=>e = .returned (.bool true)/\DataW.TrodAll enc' P W' 0 (fun b=>decide (b<W.heap.size)) true ts args.toList ds mp/\Go.RowKit.Below W.heap.size W W':=by
 obtain ⟨xs,h1,h2,h3,h4⟩:=args_of hsh (fun j t v h1 h2=>hv j t v h1 (by simpa using h2)) ht;have:=hok xs _ _ (hg xs h1) noC W args.toList (fun _ _=>rfl) (fun b r q h=>by cases h) h2 h3 (fun i pm x as e1 e2 e3=>by simpa using h4 i pm x as e1 e2 e3);rw [Array.toArray_toList] at this;refine this.mono fun e W' ⟨v,κ',he,hp⟩ => ?_
 have hb:Go.RowKit.Below W.heap.size W W':=⟨hp.fr.os,hp.fr.tape,hp.fr.out,hp.fr.size,fun k hk=>(hp.fr.kept k hk rfl).2⟩
 refine ⟨?_,args_after hl hsh ht hb,hb⟩;have hr:=hp.res;simp only [hres] at hr;obtain ⟨vs,e1,e2,e3⟩:=hr;rw [he];congr 1;simp only [encL,enc,RCL,RC] at e3;cases vs with
 | nil=>simp at e2
 | cons y vs=>
  cases vs with
  | cons _ _=>simp at e2
  | nil=>
   simp only [List.getD_cons_zero] at e3;cases v<;>simp [cellsOf] at e1<;>simp [e1,e3.1.1]
end
end Go.Fw
