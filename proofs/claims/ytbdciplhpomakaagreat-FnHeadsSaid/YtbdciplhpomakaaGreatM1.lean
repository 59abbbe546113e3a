/- What the given functions come to. No conditions. -/
import Derived.Test.YtbdciplhpomakaaGreatM0
set_option linter.unusedVariables false
set_option linter.unusedSimpArgs false
set_option linter.unusedSectionVars false
namespace Go.Fw
structure HdS (h:Hd):Prop where
 a:h.2.1.length<=12
 b:h.2.2.1.length<=132
 c:h.2.2.2.1.length<=3/\∀y,y∈h.2.2.2.1->y.length<=12
 d:h.2.2.2.2.1.length<=3
 e:h.2.2.2.2.2.2.2.2.2.2.2.2.1.length<=132
 f:h.2.2.2.2.2.2.2.2.2.2.2.2.2.2.length<=81
noncomputable def tkU (h:Hd) (i op a b:Int):JO:=Yw h.1 h.2.1 h.2.2.1 h.2.2.2.1 h.2.2.2.2.1 h.2.2.2.2.2.1 h.2.2.2.2.2.2.1 h.2.2.2.2.2.2.2.1 h.2.2.2.2.2.2.2.2.1 h.2.2.2.2.2.2.2.2.2.1 h.2.2.2.2.2.2.2.2.2.2.1 h.2.2.2.2.2.2.2.2.2.2.2.1 h.2.2.2.2.2.2.2.2.2.2.2.2.1 h.2.2.2.2.2.2.2.2.2.2.2.2.2.1 h.2.2.2.2.2.2.2.2.2.2.2.2.2.2 i op a b
noncomputable def heU (h:Hd) (sh:Int) (y:An):JO:=heR h.1 h.2.1 h.2.2.1 h.2.2.2.1 h.2.2.2.2.1 h.2.2.2.2.2.1 h.2.2.2.2.2.2.1 h.2.2.2.2.2.2.2.1 h.2.2.2.2.2.2.2.2.1 h.2.2.2.2.2.2.2.2.2.1 h.2.2.2.2.2.2.2.2.2.2.1 h.2.2.2.2.2.2.2.2.2.2.2.1 h.2.2.2.2.2.2.2.2.2.2.2.2.1 h.2.2.2.2.2.2.2.2.2.2.2.2.2.1 h.2.2.2.2.2.2.2.2.2.2.2.2.2.2 sh y
theorem HdS.bd {h:Hd} (hs:HdS h):h.2.1.length<=1048576/\h.2.2.1.length<=1048576/\(h.2.2.2.1.length<=1048576/\∀y,y∈h.2.2.2.1->y.length<=1048576)/\h.2.2.2.2.1.length<=1048576/\h.2.2.2.2.2.2.2.2.2.2.2.2.1.length<=1048576/\h.2.2.2.2.2.2.2.2.2.2.2.2.2.2.length<=1048576:=by
 obtain ⟨a,b,c,d,e,f⟩:=hs;exact ⟨by omega,by omega,⟨by omega,fun y hy=>by have:=c.2 y hy;omega⟩,by omega,by omega,by omega⟩
theorem afo {h:Hd} (hs:HdS h) (i op a b:Int):yB (h,(i,op,a,b))=some (tkU h i op a b,()):=by
 obtain ⟨b1,b2,b3,b4,b5,b6⟩:=hs.bd;exact aoc _ _ _ _ _ _ _ _ _ _ _ _ _ _ _ i op a b b1 b2 b3 b4 b5 b6
theorem afp {h:Hd} (hs:HdS h) (i op a b:Int):Fe (h,(i,op,a,b))=some (tkU h i op a b,()):=by
 obtain ⟨b1,b2,b3,b4,b5,b6⟩:=hs.bd;exact aod _ _ _ _ _ _ _ _ _ _ _ _ _ _ _ i op a b b1 b2 b3 b4 b5 b6
theorem aoi {h:Hd} (hs:HdS h) (sh:Int) (y:An) (h2:y.2.2.1.length<=1048576) (h3:y.2.2.2.length<=1048576):Fp (h,sh,y)=some (heU h sh y,()):=by
 obtain ⟨b1,b2,b3,b4,b5,b6⟩:=hs.bd;exact aog _ _ _ _ _ _ _ _ _ _ _ _ _ _ _ sh _ _ _ _ b1 b2 b3 b4 b5 b6 h2 h3
theorem afq {h:Hd} (hs:HdS h) (sh:Int) (y:An) (h2:y.2.2.1.length<=1048576) (h3:y.2.2.2.length<=1048576):uG (h,sh,y)=some (heU h sh y,()):=by
 obtain ⟨b1,b2,b3,b4,b5,b6⟩:=hs.bd;exact aoh _ _ _ _ _ _ _ _ _ _ _ _ _ _ _ sh _ _ _ _ b1 b2 b3 b4 b5 b6 h2 h3
def FT.rts:FT->List Int
 | .nil=>[]
 | .nd v c s=>v::s.rts
theorem Ww (g:FT):∀f:FT,(f.app g).rts=f.rts++g.rts
 | .nil=>rfl
 | .nd v c s=>by
  have:=Ww g s;simp [FT.app,FT.rts,this]
theorem UV:∀(g:FT) {x:Int},x∈g.rts->x∈g.vs
 | .nil,x,h=>h
 | .nd v c s,x,h=>by
  simp only [FT.rts,List.mem_cons] at h;simp only [FT.vs,List.mem_cons,List.mem_append];rcases h with h|h
  ·exact .inl h
  ·exact .inr (.inr (UV s h))
def RtO (pa:Int->Int->Prop) (v fr:Int) (g:FT):Prop:=g.rts.Pairwise (· < ·)/\∀u,u∈g.rts↔Nb pa v fr u
def GF (pa:Int->Int->Prop):FT->Int->Prop
 | .nil,_=>True
 | .nd u c s,v=>(RtO pa u v c/\GF pa c u)/\GF pa s v
theorem akC {pa:Int->Int->Prop} {v:Int} {g:FT}:∀{f:FT},GF pa f v->GF pa g v->GF pa (f.app g) v
 | .nil,_,h=>h
 | .nd u c s,h,h'=>⟨h.1,akC h.2 h'⟩
def QF (pa:Int->Int->Prop) (v fr:Int) (i:Nat) (f:FT):Prop:=f.rts.Pairwise (· < ·)/\(∀u,u∈f.rts↔Nb pa v fr u/\u<i)/\GF pa f v
theorem aoj {pa:Int->Int->Prop} {v fr:Int} {i:Nat} {f:FT} (h:QF pa v fr i f) (hno:¬Nb pa v fr i):QF pa v fr (i+1) f:=by
 refine ⟨h.1,fun u => ?_,h.2.2⟩;rw [h.2.1];constructor
 ·rintro ⟨h1,h2⟩;exact ⟨h1,by omega⟩
 ·rintro ⟨h1,h2⟩;refine ⟨h1,?_⟩;by_cases hu:u=(i:Int)
  ·subst hu;exact absurd h1 hno
  ·omega
theorem ap5 {pa:Int->Int->Prop} {v fr:Int} {i:Nat} {f g:FT} (h:QF pa v fr i f) (hnb:Nb pa v fr i) (hg:RtO pa i v g) (hg':GF pa g i):QF pa v fr (i+1) (f.app (.nd i g .nil)):=by
 refine ⟨?_,fun u => ?_,akC h.2.2 ⟨⟨hg,hg'⟩,trivial⟩⟩
 ·rw [Ww];simp only [FT.rts];rw [List.pairwise_append];refine ⟨h.1,by simp,fun a ha b hb => ?_⟩;rw [List.mem_singleton] at hb;subst hb;exact ((h.2.1 a).1 ha).2
 ·rw [Ww,List.mem_append,h.2.1];simp only [FT.rts,List.mem_singleton];constructor
  ·rintro (⟨h1,h2⟩|rfl)
   ·exact ⟨h1,by omega⟩
   ·exact ⟨hnb,by omega⟩
  ·rintro ⟨h1,h2⟩;by_cases hu:u=(i:Int)
   ·exact .inr hu
   ·exact .inl ⟨h1,by omega⟩
theorem yw {n:Nat} {e:Ed} (h:df n e=true):0<=e.1/\e.1<e.2/\e.2<n:=by
 unfold df at h;simp only [aP,aQ,decide_eq_true_eq] at h;omega
theorem amb (n:Nat) (es:List Ed) (h1:1<=n) (hn:n<=12) (hes:es.length<=1000) (hE:∀e,e∈es->df n e=true) :
  ∃b,Rn ((n:Int),es)=some (b,())/\(b=true↔∃i,∃hi:i<es.length,Con (es.take i) es[i].1 es[i].2):=by
 have hm:maxLen=9223372036854775807:=by decide
 show ∃b,Rm BIG _=_/\_;rw [alV,RN n (by omega),ae];refine bW (P:=fun o=>∃b,o=some (b,())/\(b=true↔∃i,∃hi:i<es.length,Con (es.take i) es[i].1 es[i].2)) (fun (s:List Int × Int)=>∃i:Nat,s.2=(i:Int)/\i<=es.length/\Lab n (es.take i) s.1/\∀k,k<i->∀hk:k<es.length,¬Con (es.take k) es[k].1 es[k].2) (fun s=>es.length-s.2.toNat) (fun _ (b:Unit ⊕ Bool)=>(b = .inl ()/\∀k (hk:k<es.length),¬Con (es.take k) es[k].1 es[k].2)\/(b = .inr true/\∃i,∃hi:i<es.length,Con (es.take i) es[i].1 es[i].2)) (by simp [BIG];omega) ⟨0,rfl,by omega,Lab.zero n,fun k hk=>by omega⟩ (fun self s hx hs => ?_) (fun b hb => ?_)
 ·obtain ⟨l,j⟩:=s;obtain ⟨i,h3,h4,h5,h6⟩:=hx;simp only at h3 h4 h5 h6 hs ⊢;subst h3;by_cases hi:i<es.length
  ·simp only [show ((i:Int)<(es.length:Int)) from by omega,decide_true,ah];have he:=yw (hE _ (List.getElem_mem hi));have hll:=h5.1;rw [aB hi,aO hi,ae,Jk l es[i].1 es[i].2 he.1 (by omega) (by omega) (by omega) (by omega),ae];have hiff:=h5.iff (getD_at (show es[i].1.toNat<l.length by omega)) (getD_at (show es[i].2.toNat<l.length by omega));rw [Int.toNat_of_nonneg he.1,Int.toNat_of_nonneg (by omega:0<=es[i].2)] at hiff;by_cases hq:l.getD es[i].1.toNat 0=l.getD es[i].2.toNat 0
   ·rw [ai hq];exact ⟨_,rfl,.inr ⟨rfl,i,hi,hiff.1 hq⟩⟩
   ·rw [au hq];simp only [dM,aZ,aj];rw [bE (by omega)];refine hs _ ⟨i+1,rfl,hi,?_,fun k hk hk' => ?_⟩ (by simp;omega)
    ·rw [List.take_succ_eq_append_getElem hi];exact h5.unE (e:=es[i]) ⟨he.1,by omega,by omega,he.2.2⟩
    ·by_cases hki:k=i
     ·subst hki;exact fun hc=>hq (hiff.2 hc)
     ·exact h6 k (by omega) hk'
  ·simp only [show ¬((i:Int)<(es.length:Int)) from by omega,decide_false,aj];exact ⟨_,rfl,.inl ⟨rfl,fun k hk=>h6 k (by omega) hk⟩⟩
 ·rcases hb with ⟨rfl,h⟩|⟨rfl,h⟩
  ·exact ⟨false,rfl,⟨(fun h=>by cases h),fun ⟨i,hi,hc⟩=>absurd hc (h i hi)⟩⟩
  ·exact ⟨true,rfl,⟨fun _=>h,fun _=>rfl⟩⟩
def FT.pr:FT->Int->List (Int × Int)
 | .nil,_=>[]
 | .nd w c s,r=>(r,w)::(c.pr w++s.pr r)
theorem RQ:∀(f:FT) (r:Int) (S:Int->Prop),S r->(∀a b,(a,b)∈f.pr r->S a->S b)->∀x,x∈f.vs->S x
 | .nil,_,_,_,_,x,h=>by cases h
 | .nd w c s,r,S,hr,hs,x,h=>by
  have hw:S w:=hs r w (List.mem_cons_self ..) hr;simp only [FT.vs,List.mem_cons,List.mem_append] at h;rcases h with rfl|h|h
  ·exact hw
  ·exact RQ c w S hw (fun a b hab=>hs a b (List.mem_cons_of_mem _ (List.mem_append_left _ hab))) x h
  ·exact RQ s r S hr (fun a b hab=>hs a b (List.mem_cons_of_mem _ (List.mem_append_right _ hab))) x h
theorem jm {α:Type} [DecidableEq α]:∀(l1 l2:List α),l1.Nodup->(∀x,x∈l1->x∈l2)->l1.length<=l2.length
 | [],l2,_,_=>by simp
 | x::l1,l2,hn,h=>by
  rw [List.nodup_cons] at hn;have hx:=h x (List.mem_cons_self ..);have:=jm l1 (l2.erase x) hn.2 fun y hy=>(List.mem_erase_of_ne (by rintro rfl;exact hn.1 hy)).2 (h y (List.mem_cons_of_mem _ hy))
  rw [List.length_erase_of_mem hx] at this;have:=List.length_pos_of_mem hx;simp only [bA];omega
theorem RU {α β:Type} (f:α->β):∀(l:List α),l.Nodup->(∀x,x∈l->∀y,y∈l->f x=f y->x=y)->(l.map f).Nodup
 | [],_,_=>by simp
 | x::l,hn,h=>by
  rw [List.nodup_cons] at hn;rw [List.map_cons,List.nodup_cons];refine ⟨fun hm => ?_,RU f l hn.2 fun a ha b hb=>h a (List.mem_cons_of_mem _ ha) b (List.mem_cons_of_mem _ hb)⟩;obtain ⟨y,hy,e⟩:=List.mem_map.1 hm;have:=h y (List.mem_cons_of_mem _ hy) x (List.mem_cons_self ..) e;subst this;exact hn.1 hy
theorem Cb {pa:Int->Int->Prop}:∀(c:FT) (u:Int),GF pa c u->∀y,y∈c.vs->∀z,(pa z y\/pa y z)->z∈c.vs\/z=u
 | .nil,_,_,y,h,_,_=>by cases h
 | .nd w c s,u,⟨⟨hR,hG⟩,hS⟩,y,h,z,hz=>by
  simp only [FT.vs,List.mem_cons,List.mem_append] at h ⊢;rcases h with rfl|h|h
  ·by_cases hzu:z=u
   ·exact .inr hzu
   ·exact .inl (.inr (.inl (UV c ((hR.2 z).2 ⟨hzu,hz⟩))))
  ·rcases Cb c w hG y h z hz with h1|h1
   ·exact .inl (.inr (.inl h1))
   ·exact .inl (.inl h1)
  ·rcases Cb s u hS y h z hz with h1|h1
   ·exact .inl (.inr (.inr h1))
   ·exact .inr h1
structure TrE (v:Int) (f:FT) (E:List Ed):Prop where
 nd:E.Nodup
 mem:∀a b,(a,b)∈E↔a<b/\((a,b)∈f.pr v\/(b,a)∈f.pr v)
section
variable {v:Int} {f:FT} {E:List Ed} (ht:TrOk v f) (hE:TrE v f E)
include ht
include hE
end
def mE (E:List Ed) (e:Ed):List Ed:=E.filter fun x=>decide (x≠e)
theorem jE {E:List Ed} {e x:Ed}:x∈mE E e↔x∈E/\x≠e:=by simp [mE]
def NoCyc (E:List Ed):Prop:=∀e,e∈E->¬Con (mE E e) e.1 e.2
theorem NoCyc.sub {E E':List Ed} (h:NoCyc E) (hs:∀e,e∈E'->e∈E):NoCyc E':=fun e he hc=>
 h e (hs e he) (hc.mono fun x hx=>jE.2 ⟨hs x (jE.1 hx).1,(jE.1 hx).2⟩)
theorem Jp {l:List Ed} {a b:Int} (h:NoCyc l) (hx:¬Con l a b):NoCyc (l++[(a,b)]):=by
 intro e he hc;by_cases hea:e=(a,b)
 ·subst hea;refine hx (hc.mono fun x hx' => ?_);obtain ⟨h1,h2⟩:=jE.1 hx';rw [List.mem_append,List.mem_singleton] at h1;rcases h1 with h1|h1
  ·exact h1
  ·exact absurd h1 h2
 ·have hel:e∈l:=by
   rw [List.mem_append,List.mem_singleton] at he;rcases he with he|he
   ·exact he
   ·exact absurd he hea
  have hm:mE (l++[(a,b)]) e=mE l e++[(a,b)]:=by
   unfold mE;rw [List.filter_append];simp [Ne.symm hea]
  have hsub:∀{x y:Int},Con (mE l e) x y->Con l x y:=fun hc=>hc.mono fun x hx=>(jE.1 hx).1
  have hee:Con l e.1 e.2:=.of hel;rw [hm] at hc;rcases Con.snoc.1 hc with h1|⟨h1,h2⟩|⟨h1,h2⟩
  ·exact h e hel h1
  ·exact hx (((hsub h1).symm.trans hee).trans (hsub h2).symm)
  ·exact hx (((hsub h2).trans hee.symm).trans (hsub h1))
theorem ab4 {E:List Ed} (h:∀i,∀hi:i<E.length,¬Con (E.take i) E[i].1 E[i].2):∀i,i<=E.length->NoCyc (E.take i)
 | 0,_=>by intro e he;simp at he
 | i+1,hi=>by
  rw [List.take_succ_eq_append_getElem (by omega)];exact Jp (ab4 h i (by omega)) (h i (by omega))
theorem amc {E:List Ed} (hn:E.Nodup):(∃i,∃hi:i<E.length,Con (E.take i) E[i].1 E[i].2)↔¬NoCyc E:=by
 constructor
 ·rintro ⟨i,hi,hc⟩ h;refine h _ (List.getElem_mem hi) (hc.mono fun x hx=>jE.2 ⟨List.mem_of_mem_take hx,?_⟩);rintro rfl;rw [<-List.take_append_drop i E,List.nodup_append] at hn;exact hn.2.2 _ hx _ (by rw [List.drop_eq_getElem_cons hi];exact List.mem_cons_self ..) rfl
 ·intro h;apply Classical.byContradiction;intro hno;refine h ?_;have:=ab4 (E:=E) (fun i hi hc=>hno ⟨i,hi,hc⟩) E.length (Nat.le_refl _);rwa [List.take_length] at this
def ed (a b:Int):Ed:=if a<b then (a,b) else (b,a)
theorem uY (a b:Int):ed a b=ed b a:=by
 unfold ed;by_cases h:a<b
 ·rw [if_pos h,if_neg (by omega)]
 ·by_cases h':b<a
  ·rw [if_neg h,if_pos h']
  ·have:a=b:=by omega
   rw [this]
theorem akD {v u w:Int} (h:ed v u=ed v w):u=w:=by
 unfold ed at h;split at h<;>split at h<;>simp only [Prod.mk.injEq] at h<;>omega
theorem akE (v u:Int):(ed v u).1=v\/(ed v u).2=v:=by
 unfold ed;split
 ·exact .inl rfl
 ·exact .inr rfl
def ad (E:List Ed) (u v:Int):Prop:=(u,v)∈E\/(v,u)∈E
theorem Od {E:List Ed} {u v:Int} (h:ad E u v):ad E v u:=h.symm
theorem ab5 {E:List Ed} {a b:Int} (h:ed a b∈E):Con E a b:=by
 unfold ed at h;split at h
 ·exact .of h
 ·exact (Con.of h).symm
section
variable {n:Nat} {E:List Ed} (hE:∀e,e∈E->df n e=true)
include hE
theorem Oe {a b:Int}:ed a b∈E↔ad E a b:=by
 unfold ed ad;constructor
 ·intro h;split at h
  ·exact .inl h
  ·exact .inr h
 ·rintro (h|h)
  ·have:=yw (hE _ h);rw [if_pos this.2.1];exact h
  ·have:=yw (hE _ h);simp only at this;rw [if_neg (by omega)];exact h
theorem Og {a b:Int} (h:ad E a b):(0<=a/\a<n)/\(0<=b/\b<n)/\a≠b:=by
 rcases h with h|h
 ·have:=yw (hE _ h);simp only at this;omega
 ·have:=yw (hE _ h);simp only at this;omega
end
def JP (E:List Ed) (v fr x:Int):Prop:=fr = -1\/Con (mE E (ed v fr)) v x
theorem ab6 (E:List Ed) (v fr:Int):JP E v fr v:=.inr (.refl _)
section
variable {E:List Ed} (hN:NoCyc E)
include hN
theorem Oh {u v:Int} (he:ed u v∈E):¬Con (mE E (ed u v)) u v:=by
 intro hc;refine hN _ he ?_;unfold ed at hc ⊢;split
 ·rename_i h;rw [if_pos h] at hc;exact hc
 ·rename_i h;rw [if_neg h] at hc;exact hc.symm
theorem akF {u v x:Int} (he:ed u v∈E) {e1:Ed} (h1:e1.1=v\/e1.2=v) (h:Con (mE E (ed u v)) u x):Con (mE E e1) u x:=by
 induction h with
 | refl=>exact .refl _
 | fwd hc hm ih=>
  refine .fwd ih (jE.2 ⟨(jE.1 hm).1,?_⟩);rintro rfl;rcases h1 with h1|h1
  ·simp only at h1;subst h1;exact Oh hN he hc
  ·simp only at h1;subst h1;exact Oh hN he (.fwd hc hm)
 | bwd hc hm ih=>
  refine .bwd ih (jE.2 ⟨(jE.1 hm).1,?_⟩);rintro rfl;rcases h1 with h1|h1
  ·simp only at h1;subst h1;exact Oh hN he (.bwd hc hm)
  ·simp only at h1;subst h1;exact Oh hN he hc
theorem afr {n:Nat} (hE:∀e,e∈E->df n e=true) {v fr u x:Int} (hu:Nb (ad E) v fr u) (h:JP E u v x):JP E v fr x/\x≠v:=by
 have had:ad E u v:=by
  rcases hu.2 with h|h
  ·exact h
  ·exact Od h
 have hrg:=Og hE had;have he:ed u v∈E:=(Oe hE).2 had;have hc:Con (mE E (ed u v)) u x:=by
  rcases h with h|h
  ·omega
  ·exact h
 refine ⟨.inr ?_,?_⟩
 ·refine Con.trans ?_ (akF hN he (e1:=ed v fr) (akE v fr) hc);refine ab5 (jE.2 ⟨by rw [uY];exact he,fun h=>hu.1 (akD h)⟩)
 ·rintro rfl;exact Oh hN he hc
theorem aok {n:Nat} (hE:∀e,e∈E->df n e=true) {v fr u u' x:Int} (hu:Nb (ad E) v fr u) (hu':Nb (ad E) v fr u') (h:JP E u v x) (h':JP E u' v x):u=u':=by
 have conv:∀{w:Int},Nb (ad E) v fr w->ad E w v:=fun hw=>by
  rcases hw.2 with h|h
  ·exact h
  ·exact Od h
 have hrg:=Og hE (conv hu);have he:=(Oe hE).2 (conv hu);have he':=(Oe hE).2 (conv hu');have hc:Con (mE E (ed u v)) u x:=by
  rcases h with h|h
  ·omega
  ·exact h
 have hc':Con (mE E (ed u' v)) u' x:=by
  rcases h' with h|h
  ·omega
  ·exact h
 apply Classical.byContradiction;intro hne;refine Oh hN he' ?_;have h1:Con (mE E (ed u' v)) u x:=akF hN he (e1:=ed u' v) (by rw [uY];exact akE v u') hc;have h2:Con (mE E (ed u' v)) u v:=ab5 (jE.2 ⟨he,fun h=>hne (akD (v:=v) (by rw [uY v u,uY v u'];exact h))⟩);exact (hc'.trans h1.symm).trans h2
end
def WG (n:Nat) (pa:Int->Int->Prop) (v fr:Int) (seen:List Bool) (f:FT) (seen':List Bool):Prop:=
 (v::f.vs).Nodup/\(∀x,x∈v::f.vs->(0<=x/\x<n)/\seen.getD x.toNat false=false)/\(∀x:Nat,x<n->(seen'.getD x false=true↔seen.getD x false=true\/(x:Int)∈v::f.vs))/\RtO pa v fr f/\GF pa f v
def Yx (n:Nat) (E:List Ed) (v fr:Int) (seen:List Bool):Prop:=NoCyc E/\∀x:Nat,x<n->JP E v fr x->seen.getD x false=false
section
variable {n:Nat} {E:List Ed} (hE:∀e,e∈E->df n e=true)
include hE
theorem akG {v fr u:Int} (h:Nb (ad E) v fr u):(0<=u/\u<n):=by
 rcases h.2 with h|h
 ·exact (Og hE h).1
 ·exact (Og hE h).2.1
theorem am9 (hn:n<=12) (hes:E.length<=1048576):∀(d:Nat) (v fr:Int) (seen:List Bool) (W:List Int),seen.length=n->(0<=v/\v<n)->seen.getD v.toNat false=false->W.Nodup->(∀x,x∈W->(0<=x/\x<n)/\seen.getD x.toNat false=true)->n<W.length+d ->
  ∃t ring seen',rP d ((n:Int),E,v,fr,seen)=some ((t,ring),seen')/\seen'.length=n/\(ring=false->∃f,t=tr v f/\WG n (ad E) v fr seen f seen')/\(Yx n E v fr seen->ring=false/\∀x,x∈t->JP E v fr x)
 | 0,v,fr,seen,W,_,_,_,hWn,hW,hd=>by
  have:=qg n W hWn (fun x hx=>(hW x hx).1)
  omega
 | d+1,v,fr,seen,W,hs,hv,hvf,hWn,hW,hd=>by
  have hm:maxLen=9223372036854775807:=by decide
  have hvn:v.toNat<seen.length:=by omega
  have hvW:v∉W:=fun h=>by
   have:=(hW v h).2
   rw [hvf] at this;cases this
  have hW'n:(v::W).Nodup:=List.nodup_cons.2 ⟨hvW,hWn⟩
  show ∃t ring seen',Gz (rP d) BIG _=_/\_
  rw [agC]
  rw [bn hv.1 (by omega),aO hvn,ae]
  refine bW (x:=([v],seen.set v.toNat true,(0:Int))) (P:=fun o=>∃t ring seen',o=some ((t,ring),seen')/\seen'.length=n/\(ring=false->∃f,t=tr v f/\WG n (ad E) v fr seen f seen')/\(Yx n E v fr seen->ring=false/\∀x,x∈t->JP E v fr x))
   (fun (x:List Int × List Bool × Int)=>∃(i:Nat) (f:FT),x.2.2=(i:Int)/\i<=n/\x.1=tr v f/\x.2.1.length=n/\(v::f.vs).Nodup/\(∀y,y∈v::f.vs->(0<=y/\y<n)/\seen.getD y.toNat false=false)/\(∀y:Nat,y<n->(x.2.1.getD y false=true↔seen.getD y false=true\/(y:Int)∈v::f.vs))/\QF (ad E) v fr i f/\(Yx n E v fr seen->∀y,y∈f.vs->∃u:Nat,u<i/\Nb (ad E) v fr u/\JP E u v y))
   (fun x=>n-x.2.2.toNat) (fun _ (b:(List Int × List Bool) ⊕ (List Int × Bool × List Bool))=>(∃f seen',b = .inl (tr v f,seen')/\seen'.length=n/\WG n (ad E) v fr seen f seen'/\(Yx n E v fr seen->∀x,x∈tr v f->JP E v fr x))\/(∃t seen',b = .inr (t,true,seen')/\seen'.length=n/\¬Yx n E v fr seen)) (by simp [BIG];omega)
   ⟨0,.nil,rfl,by omega,rfl,by rw [jH];exact hs,by simp [FT.vs],fun y hy => ?_,fun y hy => ?_,⟨List.Pairwise.nil,fun u => ?_,trivial⟩,fun _ y hy=>by simp [FT.vs] at hy⟩ (fun self x hx hself => ?_) (fun b hb => ?_)
  ·simp only [FT.vs,List.mem_cons,List.not_mem_nil,or_false] at hy
   subst hy
   exact ⟨hv,hvf⟩
  ·rw [ahM hvn]
   simp only [FT.vs,List.mem_cons,List.not_mem_nil,or_false]
   constructor
   ·rintro (h|h)
    ·exact .inl h
    ·exact .inr (by omega)
   ·rintro (h|h)
    ·exact .inl h
    ·exact .inr (by omega)
  ·simp only [FT.rts,List.not_mem_nil,false_iff,not_and]
   intro h
   have:=akG hE h
   omega
  ·obtain ⟨out,sn,u⟩:=x
   obtain ⟨i,f,h1,h2,h3,h4,h5,h6,h7,h8,h9⟩:=hx
   simp only at h1 h2 h3 h4 h5 h6 h7 h8 h9 hself ⊢
   subst h1 h3
   by_cases hi:i<n
   ·have hed:(bif decide (v<(i:Int)) then some (v,(i:Int)) else some ((i:Int),v))=some (ed v i):=by
     unfold ed;by_cases h:v<(i:Int)
     ·rw [ai h,if_pos h];rfl
     ·rw [au h,if_neg h];rfl
    simp only [show ((i:Int)<(n:Int)) from by omega,decide_true,ah,hed,ae]
    have hskip:¬Nb (ad E) v fr i->∃b,self (tr v f,sn,IntKind.wrap .i64 ((i:Int)+1))=some b/\((∃f seen',b = .inl (tr v f,seen')/\seen'.length=n/\WG n (ad E) v fr seen f seen'/\(Yx n E v fr seen->∀x,x∈tr v f->JP E v fr x))\/(∃t seen',b = .inr (t,true,seen')/\seen'.length=n/\¬Yx n E v fr seen)):=by
     intro hno
     rw [bE (by omega)]
     exact hself _ ⟨i+1,f,rfl,by omega,rfl,h4,h5,h6,h7,aoj h8 hno,fun hw y hy=>by
      obtain ⟨u,g2,g3⟩:=h9 hw y hy
      exact ⟨u,by omega,g3⟩⟩ (by simp;omega)
    by_cases hif:(i:Int)=fr
    ·rw [ai hif]
     simp only [ah,ae]
     exact hskip (fun h=>h.1 hif)
    ·rw [au hif]
     rw [aj,wI _ _ (by omega),ae]
     by_cases hin:ed v i∈E
     ·have had:ad E v i:=(Oe hE).1 hin
      have hnb:Nb (ad E) v fr i:=⟨hif,.inr had⟩
      have hil:i<sn.length:=by omega
      rw [ai hin]
      simp only [aZ,ae,aj]
      rw [aB hil,aO hil,ae]
      have hgi:sn.getD i false=sn[i]:=gD (aO hil)
      -- nothing of i's side was met before
      have hfree:Yx n E v fr seen->∀x:Nat,x<n->JP E i v x->sn.getD x false=false:=by
       intro hw x hx hb
       obtain ⟨b1,b2⟩:=afr hw.1 hE hnb hb
       cases hg:sn.getD x false with
       | false=>rfl
       | true=>
        exfalso
        rcases (h7 x hx).1 hg with h|h
        ·rw [hw.2 x hx b1] at h;cases h
        ·rw [List.mem_cons] at h
         rcases h with h|h
         ·exact b2 h
         ·obtain ⟨u,u1,u2,u3⟩:=h9 hw _ h
          have:=aok hw.1 hE u2 hnb u3 hb
          omega
      by_cases hsi:sn[i]=true
      ·rw [hsi,ah,ae]
       refine ⟨_,rfl,.inr ⟨_,_,rfl,h4,fun hw => ?_⟩⟩
       have:=hfree hw i hi (ab6 E i v)
       rw [hgi,hsi] at this
       cases this
      ·have hsf:sn[i]=false:=by simpa using hsi
       rw [hsf,aj]
       obtain ⟨t,ring,sn',e1,w1,w2,w3⟩:=am9 hn hes d i v sn (v::W) h4 (by omega) (by rw [fH,hgi,hsf]) hW'n (fun x hx=>by
        rw [List.mem_cons] at hx
        rcases hx with rfl|hx
        ·exact ⟨hv,by rw [h7 x.toNat (by omega),Int.toNat_of_nonneg hv.1];exact .inr (List.mem_cons_self ..)⟩
        ·obtain ⟨x1,x2⟩:=hW x hx
         exact ⟨x1,by rw [h7 x.toNat (by omega)];exact .inl x2⟩) (by simp only [bA];omega)
       rw [e1,ae]
       cases ring with
       | true=>
        rw [ah,ae]
        refine ⟨_,rfl,.inr ⟨_,_,rfl,w1,fun hw => ?_⟩⟩
        have:=(w3 ⟨hw.1,hfree hw⟩).1
        cases this
       | false=>
        obtain ⟨g,rfl,k1,k2,k3,k4,k5⟩:=w2 rfl
        have hvl:f.vs.length<=12:=by
         have:=qg n (v::f.vs) h5 (fun x hx=>(h6 x hx).1)
         simp only [bA] at this;omega
        have hgl:g.vs.length<=12:=by
         have:=qg n (_::g.vs) k1 (fun x hx=>(k2 x hx).1)
         simp only [bA] at this;omega
        simp only [aj]
        rw [ai (by simp only [tJ];omega),ah,ai (by simp only [bZ,tJ,bA,List.length_nil];omega),ah,ae]
        have eo:(tr v f++tr i g)++[v]=tr v (f.app (.nd i g .nil)):=by simp [tr,aky,FT.sg]
        simp only [eo]
        have evs:(f.app (.nd i g .nil)).vs=f.vs++((i:Int)::g.vs):=by rw [akz];simp [FT.vs]
        rw [bE (by omega)]
        refine hself _ ⟨i+1,_,rfl,by omega,rfl,w1,?_,fun y hy => ?_,fun y hy => ?_,ap5 h8 hnb k4 k5,fun hw y hy => ?_⟩ (by simp;omega)
        ·rw [evs]
         have:(v::(f.vs++(i:Int)::g.vs))=(v::f.vs)++(i:Int)::g.vs:=rfl
         rw [this,List.nodup_append]
         refine ⟨h5,k1,fun a ha b hb hab => ?_⟩
         subst hab
         have h6':=h6 a ha
         have h7':=(h7 a.toNat (by omega)).2 (.inr (by rw [Int.toNat_of_nonneg h6'.1.1];exact ha))
         rw [(k2 a hb).2] at h7'
         cases h7'
        ·rw [evs] at hy
         have:y∈(v::f.vs)\/y∈(i:Int)::g.vs:=by
          rw [List.mem_cons,List.mem_append] at hy
          rcases hy with hy|hy|hy
          ·exact .inl (hy▸List.mem_cons_self ..)
          ·exact .inl (List.mem_cons_of_mem _ hy)
          ·exact .inr hy
         rcases this with hy|hy
         ·exact h6 y hy
         ·refine ⟨(k2 y hy).1,?_⟩
          have h0:=(k2 y hy).1
          cases hg:seen.getD y.toNat false with
          | false=>rfl
          | true=>
           have:=(h7 y.toNat (by omega)).2 (.inl hg)
           rw [(k2 y hy).2] at this
           cases this
        ·rw [k3 y hy,h7 y hy,evs]
         simp only [List.mem_cons,List.mem_append]
         constructor
         ·rintro ((h|h|h)|h|h)
          ·exact .inl h
          ·exact .inr (.inl h)
          ·exact .inr (.inr (.inl h))
          ·exact .inr (.inr (.inr (.inl h)))
          ·exact .inr (.inr (.inr (.inr h)))
         ·rintro (h|h|h|h|h)
          ·exact .inl (.inl h)
          ·exact .inl (.inr (.inl h))
          ·exact .inl (.inr (.inr h))
          ·exact .inr (.inl h)
          ·exact .inr (.inr h)
        ·rw [evs,List.mem_append] at hy
         rcases hy with hy|hy
         ·obtain ⟨u,g2,g3⟩:=h9 hw y hy
          exact ⟨u,by omega,g3⟩
         ·exact ⟨i,by omega,hnb,(w3 ⟨hw.1,hfree hw⟩).2 y ((tK _ _ _).2 hy)⟩
     ·rw [au hin]
      simp only [dM,ae,ah]
      refine hskip (fun h=>hin ((Oe hE).2 ?_))
      rcases h.2 with h|h
      ·exact Od h
      ·exact h
   ·simp only [show ¬((i:Int)<(n:Int)) from by omega,decide_false,aj]
    have hin:i=n:=by omega
    subst hin
    refine ⟨_,rfl,.inl ⟨f,sn,rfl,h4,⟨h5,h6,h7,⟨h8.1,fun u => ?_⟩,h8.2.2⟩,fun hw x hx => ?_⟩⟩
    ·rw [h8.2.1]
     exact ⟨fun h=>h.1,fun h=>⟨h,(akG hE h).2⟩⟩
    ·rw [tK,List.mem_cons] at hx
     rcases hx with rfl|hx
     ·exact ab6 ..
     ·obtain ⟨u,u1,u2,u3⟩:=h9 hw x hx
      exact (afr hw.1 hE u2 u3).1
  ·rcases hb with ⟨f,seen',rfl,h1,h2,h3⟩|⟨t,seen',rfl,h1,h2⟩
   ·exact ⟨_,_,_,rfl,h1,fun _=>⟨f,rfl,h2⟩,fun hw=>⟨rfl,h3 hw⟩⟩
   ·exact ⟨_,_,_,rfl,h1,fun h=>(by cases h),fun hw=>absurd hw h2⟩
end
theorem uZ (l:List Int) (x:Int) (hl:l.length<=1048576):gP (l,x)=some (decide (x∈l),()):=by
 have hm:maxLen=9223372036854775807:=by decide
 show QI BIG _=_;rw [alE,tL l (by omega) (fun y=>decide (y=x)) true (fun self i y hy => ?_) (fun self=>by simp)]
 ·rw [ae];have:l.any (fun y=>decide (y=x))=true↔x∈l:=by
   rw [List.any_eq_true];constructor
   ·rintro ⟨y,hy,h⟩;rw [decide_eq_true_eq] at h;rw [<-h];exact hy
   ·exact fun h=>⟨x,h,by simp⟩
  by_cases h:x∈l
  ·rw [if_pos (this.2 h),ai h]
  ·rw [if_neg (fun h'=>h (this.1 h')),au h]
 ·have hi:=(aS hy).1;simp only [show ((i:Int)<(l.length:Int)) from by omega,decide_true,ah];rw [aB hi,hy,ae,bE (by omega)];by_cases h:y=x<;>simp [h]
theorem ahN {v:Int} {c:FT} (h:TrOk v c):GK (tr v c)=some (true,()):=by
 have hm:maxLen=9223372036854775807:=by decide
 have hl:=h.len;have hlen:=tJ v c;have hsl:=UT c v;have e0:(tr v c)[Int.toNat 0]?=some v:=rfl;have b0:∀{B:Type} {k:Nat->Option B},bnd (tr v c).length 0 k=k (Int.toNat 0):=fun {B k}=>bn (by omega) (by omega)
 show GJ BIG _=_;rw [agH];simp only [b0,e0,ae];refine bW (P:=fun o=>o=some (true,())) (fun (x:List Int × List Int × Int)=>∃j:Nat,x.2.2=((j+1:Nat):Int)/\j<=(c.sg v).length/\fM oU ([v],[v]) ((c.sg v).take j)=some (x.1,x.2.1)/\1<=x.1.length/\x.1.length<=j+1/\x.2.1.length<=j+1) (fun x=>(tr v c).length-x.2.2.toNat)
  (fun _ (b:List Int ⊕ Bool)=>b = .inl [v]) (by simp [BIG];omega) ⟨0,rfl,by omega,rfl,by simp,by simp,by simp⟩ (fun self x hx hs => ?_) (fun b hb=>by subst hb;rfl)
 obtain ⟨p,q,jj⟩:=x;obtain ⟨j,h1,h2,h3,k1,k2,k3⟩:=hx;simp only at h1 h2 h3 k1 k2 k3 hs ⊢;subst h1;by_cases hj:j<(c.sg v).length
 ·have hj1:j+1<(tr v c).length:=by omega
  have hy:(tr v c)[j+1]?=some (c.sg v)[j]:=by
   show (c.sg v)[j]?=_;exact aO hj
  have bj:∀{B:Type} {k:Nat->Option B},bnd (tr v c).length ((j+1:Nat):Int) k=k (j+1):=fun {B k}=>aB hj1
  generalize hye:(c.sg v)[j]=y at hy
  -- the step is one of the run's
  have hst:∃s',oU (p,q) y=some s':=by
   have hr:=h.run;rw [<-List.take_append_drop j (c.sg v),UU,h3,ae,List.drop_eq_getElem_cons hj,fM,hye] at hr;cases hs':oU (p,q) y with
   | none=>rw [hs'] at hr;cases hr
   | some s'=>exact ⟨s',rfl⟩
  have htk:∀{s'},oU (p,q) y=some s'->fM oU ([v],[v]) ((c.sg v).take (j+1))=some s':=by
   intro s' hs';rw [List.take_succ_eq_append_getElem hj,UU,h3,ae,fM,hye,hs'];rfl
  obtain ⟨s',hst⟩:=hst;have ht:=htk hst;simp only [show (((j+1:Nat):Int)<((tr v c).length:Int)) from by omega,decide_true,ah,bj,hy,ae];have hw1:IntKind.wrap .i64 ((p.length:Int)-1)=((p.length-1:Nat):Int):=by rw [wr (by omega) (by omega)];omega
  have hpop:(bif decide ((1:Int)<(p.length:Int)) then
     bnd p.length (IntKind.wrap .i64 ((p.length:Int)-(2:Int))) fun n8=>
     Option.bind p[n8]? fun y9=>
     some (decide (y=y9))
     else some false)=some (decide (1<p.length/\p.getD (p.length-2) 0=y)):=by
   by_cases h1:1<p.length
   ·have hw2:IntKind.wrap .i64 ((p.length:Int)-2)=((p.length-2:Nat):Int):=by rw [wr (by omega) (by omega)];omega
    rw [ai (by omega),ah,hw2,aB (by omega),getD_at (by omega),ae];by_cases hq:p.getD (p.length-2) 0=y
    ·rw [ai hq.symm,ai ⟨h1,hq⟩]
    ·rw [au (fun h=>hq h.symm),au (fun h=>hq h.2)]
   ·rw [au (by omega),aj,au (fun h=>h1 h.1)]
  rw [hpop,ae];unfold oU at hst;by_cases hc:1<p.length/\p.getD (p.length-2) 0=y
  ·rw [if_pos hc] at hst;cases hst;simp only [ai hc,ah,hw1];rw [ai (by omega),ah,fH,ai (by omega),ah,ae,Nat.sub_zero,List.drop_zero];simp only;rw [bE (by omega)];refine hs _ ⟨j+1,rfl,hj,ht,?_,?_,by simp only;omega⟩ (by simp;omega)
   ·simp only [List.length_take];omega
   ·simp only [List.length_take];omega
  ·rw [if_neg hc] at hst;split at hst;case isFalse=>cases hst
   case isTrue hq=>
   cases hst;simp only [au hc,aj];rw [uZ q y (by omega),ae];simp only [au hq.2,aj];rw [ai (by simp only [bA,List.length_nil];omega),ah,ai (by simp only [bA,List.length_nil];omega),ah,ae];simp only;rw [bE (by omega)];refine hs _ ⟨j+1,rfl,hj,ht,?_,?_,?_⟩ (by simp;omega)
   ·simp only [bZ,bA,List.length_nil];omega
   ·simp only [bZ,bA,List.length_nil];omega
   ·simp only [bZ,bA,List.length_nil];omega
 ·have:j=(c.sg v).length:=by omega
  subst this;rw [List.take_length,h.run] at h3;cases h3;simp only [show ¬((((c.sg v).length+1:Nat):Int)<((tr v c).length:Int)) from by omega,decide_false,aj];exact ⟨_,rfl,rfl⟩
theorem akH {v:Int} {c:FT} (h:TrOk v c):KV (tr v c)=some (true,()):=by
 have hm:maxLen=9223372036854775807:=by decide
 have hl:=h.len;have hlen:=tJ v c;show KU BIG _=_;rw [ajt,bI,show aU ((tr v c).length:Int) 1 23=true from aQ.2 (by omega),ae];simp only [aZ,aj];rw [tL (tr v c) (by omega) (fun y=>!aU y 0 11) false (fun self i y hy => ?_) (fun self=>by simp)]
 ·have:(tr v c).any (fun y=>!aU y 0 11)=false:=by
   rw [List.any_eq_false];intro y hy;rw [show aU y 0 11=true from aQ.2 (h.rg y ((tK _ _ _).1 hy))];simp
  rw [this];simp only [Bool.false_eq_true,if_false,ae];rw [ahN h];rfl
 ·have hi:=(aS hy).1;simp only [show ((i:Int)<((tr v c).length:Int)) from by omega,decide_true,ah];rw [aB hi,hy,ae,bI,ae,bE (by omega)];cases aU y 0 11<;>rfl
theorem ahO (t:List Int) (ht:∀x,x∈t->0<=x/\x<=11) (hl:t.length<=1048576):∃V,iA t=some (V,())/\V.Pairwise (· < ·)/\(∀x,x∈V↔x∈t)/\V.length<=12:=by
 have hm:maxLen=9223372036854775807:=by decide
 show ∃V,GG BIG _=_/\_;rw [agF];refine bW (P:=fun o=>∃V:List Int,o=some (V,())/\V.Pairwise (· < ·)/\(∀x,x∈V↔x∈t)/\V.length<=12) (fun (s:List Int × Int)=>∃i:Nat,s.2=i/\i<=12/\s.1.Pairwise (· < ·)/\(∀x,x∈s.1↔x∈t/\x<i)/\s.1.length<=i) (fun s=>12-s.2.toNat)
  (fun _ (V:List Int)=>V.Pairwise (· < ·)/\(∀x,x∈V↔x∈t)/\V.length<=12) (by simp [BIG]) ⟨0,rfl,by omega,by simp,fun x => ?_,by simp⟩ (fun self s hx hs => ?_) (fun V hV=>⟨V,rfl,hV⟩)
 ·simp only [List.not_mem_nil,false_iff,not_and];intro hx;have:=ht x hx;omega
 obtain ⟨s,j⟩:=s;obtain ⟨i,h1,h2,h3,h4,h5⟩:=hx;simp only at h1 h2 h3 h4 h5 hs ⊢;subst h1;by_cases hi:i<12
 ·simp only [show ((i:Int)<12) from by omega,decide_true,ah];rw [uZ t i hl,ae,bE (by omega)];by_cases hin:(i:Int)∈t
  ·rw [ai hin,ah,ai (by simp only [bA,List.length_nil];omega),ah,ae];refine hs _ ⟨i+1,rfl,by omega,?_,fun x => ?_,by simp only [bZ,bA,List.length_nil];omega⟩ (by simp;omega)
   ·rw [List.pairwise_append];refine ⟨h3,by simp,fun a ha b hb => ?_⟩;rw [List.mem_singleton] at hb;subst hb;exact ((h4 a).1 ha).2
   ·simp only [List.mem_append,List.mem_singleton];rw [h4];constructor
    ·rintro (⟨g1,g2⟩|rfl)
     ·exact ⟨g1,by omega⟩
     ·exact ⟨hin,by omega⟩
    ·rintro ⟨g1,g2⟩;by_cases hx:x=(i:Int)
     ·exact .inr hx
     ·exact .inl ⟨g1,by omega⟩
  ·rw [au hin,aj,ae];refine hs _ ⟨i+1,rfl,by omega,h3,fun x => ?_,by simp only;omega⟩ (by simp;omega);simp only;rw [h4];constructor
   ·rintro ⟨g1,g2⟩;exact ⟨g1,by omega⟩
   ·rintro ⟨g1,g2⟩;refine ⟨g1,?_⟩;by_cases hx:x=(i:Int)
    ·subst hx;exact absurd g1 hin
    ·omega
 ·simp only [show ¬((i:Int)<12) from by omega,decide_false,aj];have:i=12:=by omega
  subst this;refine ⟨_,rfl,h3,fun x => ?_,h5⟩;rw [h4];exact ⟨fun h=>h.1,fun h=>⟨h,by have:=ht x h;omega⟩⟩
def aG (L:List az) (k:Int):List Ed:=(L.filter fun x=>x.2.2.2&&decide (k<=x.2.2.1)).map fun x=>(x.1,x.2.1)
theorem Wx (L:List az) (k:Int):(aG L k).length<=L.length:=by
 unfold aG;rw [List.length_map];exact List.length_filter_le _ _
theorem UW (n:Int) (L:List az) (k:Int) (hL:L.length<=1048576):Gv ((n,L),k)=some (aG L k,()):=by
 have hm:maxLen=9223372036854775807:=by decide
 show xP BIG _=_;rw [Tw];refine bW (P:=fun o=>o=some (aG L k,())) (fun (s:List Ed × Int)=>∃i:Nat,s.2=i/\i<=L.length/\s.1=aG (L.take i) k) (fun s=>L.length-s.2.toNat)
  (fun _ (V:List Ed)=>V=aG L k) (by simp [BIG];omega) ⟨0,rfl,by omega,rfl⟩ (fun self s hx hs => ?_) (fun V hV=>by rw [hV])
 obtain ⟨s,j⟩:=s;obtain ⟨i,h1,h2,h3⟩:=hx;simp only at h1 h2 h3 hs ⊢;subst h1;by_cases hi:i<L.length
 ·have hle:=Wx (L.take i) k;rw [List.length_take] at hle;simp only [show ((i:Int)<(L.length:Int)) from by omega,decide_true,ah];rw [aB hi,aO hi,ae,bE (by omega)];have hn:aG (L.take (i+1)) k=aG (L.take i) k++(if L[i].2.2.2=true/\k<=L[i].2.2.1 then [(L[i].1,L[i].2.1)] else []):=by
   unfold aG;rw [List.take_succ_eq_append_getElem hi,List.filter_append,List.map_append];congr 1;by_cases h1:L[i].2.2.2=true<;>by_cases h2:k<=L[i].2.2.1<;>simp [h1,h2]
  cases ht:L[i].2.2.2 with
  | false=>
   rw [aj];simp only [ae,aj];exact hs _ ⟨i+1,rfl,hi,by simp only;rw [hn,if_neg (fun h=>by rw [ht] at h;cases h.1),List.append_nil,h3]⟩ (by simp;omega)
  | true=>
   rw [ah];simp only [ae];by_cases h2:k<=L[i].2.2.1
   ·rw [ai h2,ah,ai (by rw [h3];simp only [bA,List.length_nil];omega),ah,ae];exact hs _ ⟨i+1,rfl,hi,by simp only;rw [hn,if_pos ⟨ht,h2⟩,h3]⟩ (by simp;omega)
   ·rw [au h2,aj,ae];exact hs _ ⟨i+1,rfl,hi,by simp only;rw [hn,if_neg (fun h=>h2 h.2),List.append_nil,h3]⟩ (by simp;omega)
 ·simp only [show ¬((i:Int)<(L.length:Int)) from by omega,decide_false,aj];have:i=L.length:=by omega
  subst this;exact ⟨_,rfl,by rw [h3,List.take_length]⟩
structure GT (n:Nat) (E:List Ed) (v:Int) (f:FT):Prop where
 nd:(v::f.vs).Nodup
 rg:∀x,x∈v::f.vs->0<=x/\x<n
 rt:RtO (ad E) v (-1) f
 gf:GF (ad E) f v
theorem ahP {n:Nat} {E:List Ed} (hE:∀e,e∈E->df n e=true) (h1:1<=n) (h2:n<=12) (hes:E.length<=1048576) (r:Int) (hr:0<=r/\r<n) :
  ∃t b,Bt ((n:Int),E,r)=some ((t,b),())/\(b=true->∃f,t=tr r f/\GT n E r f)/\(NoCyc E->b=true):=by
 have hm:maxLen=9223372036854775807:=by decide
 obtain ⟨t,ring,sn,e1,w1,w2,w3⟩:=am9 hE h2 hes 64 r (-1) (List.replicate n false) [] (by simp) hr (by rw [gD (List.getElem?_replicate_of_lt (show r.toNat<n by omega))]) (by simp) (by simp) (by simp;omega);have e2:Bt ((n:Int),E,r)=some (if ring=true then ([],false) else (t,true),()):=by
  show KQ BIG _=_;rw [ajr,bI,show aU (n:Int) 1 12=true from aQ.2 (by omega),ae];simp only [aZ,aj];rw [wr (n:=(n:Int)-1) (by omega) (by omega),bI,show aU r 0 ((n:Int)-1)=true from aQ.2 (by omega),ae,ae];simp only [aZ,aj];rw [tL E (by omega) (fun y=>!df n y) ([],false) (fun self i y hy => ?_) (fun self=>by simp)]
  ·have:E.any (fun y=>!df n y)=false:=by
    rw [List.any_eq_false];intro y hy;rw [hE y hy];simp
   rw [this];simp only [Bool.false_eq_true,if_false,ae];rw [ai (by omega),ah,ai (by omega),ah,fH,e1];cases ring<;>rfl
  ·have hi:=(aS hy).1;simp only [show ((i:Int)<(E.length:Int)) from by omega,decide_true,ah];rw [aB hi,hy,ae,BX,ae,bE (by omega)];cases df n y<;>rfl
 cases ring with
 | true=>
  refine ⟨[],false,e2,fun h=>(by cases h),fun hN => ?_⟩;have:=(w3 ⟨hN,fun x hx _=>gD (List.getElem?_replicate_of_lt hx)⟩).1;cases this
 | false=>
  refine ⟨t,true,e2,fun _ => ?_,fun _=>rfl⟩;obtain ⟨f,rfl,k1,k2,k3,k4,k5⟩:=w2 rfl;exact ⟨f,rfl,k1,fun x hx=>(k2 x hx).1,k4,k5⟩
theorem ahQ {pa:Int->Int->Prop}:∀(f:FT) (v:Int),(∀w,w∈f.rts->pa w v\/pa v w)->GF pa f v->∀{a b:Int},(a,b)∈f.pr v->pa b a\/pa a b
 | .nil,_,_,_,_,_,h=>by cases h
 | .nd w c s,v,hr,⟨⟨hR,hG⟩,hS⟩,a,b,h=>by
  simp only [FT.pr,List.mem_cons,List.mem_append,Prod.mk.injEq] at h;rcases h with ⟨rfl,rfl⟩|h|h
  ·exact hr _ (List.mem_cons_self ..)
  ·exact ahQ c w (fun x hx=>((hR.2 x).1 hx).2) hG h
  ·exact ahQ s v (fun x hx=>hr x (List.mem_cons_of_mem _ hx)) hS h
theorem ab7:∀(f:FT) (v:Int) {z:Int},z∈f.rts->(v,z)∈f.pr v
 | .nil,_,_,h=>by cases h
 | .nd w c s,v,z,h=>by
  simp only [FT.rts,List.mem_cons] at h;simp only [FT.pr,List.mem_cons,List.mem_append];rcases h with rfl|h
  ·exact .inl rfl
  ·exact .inr (.inr (ab7 s v h))
theorem Wy {pa:Int->Int->Prop}:∀(f:FT) (v:Int),GF pa f v->∀y,y∈f.vs->∀z,(pa z y\/pa y z)->(y,z)∈f.pr v\/(z,y)∈f.pr v
 | .nil,_,_,y,h,_,_=>by cases h
 | .nd w c s,v,⟨⟨hR,hG⟩,hS⟩,y,h,z,hz=>by
  simp only [FT.vs,List.mem_cons,List.mem_append] at h;simp only [FT.pr,List.mem_cons,List.mem_append];rcases h with rfl|h|h
  ·by_cases hzv:z=v
   ·subst hzv;exact .inr (.inl rfl)
   ·exact .inl (.inr (.inl (ab7 c y ((hR.2 z).2 ⟨hzv,hz⟩))))
  ·rcases Wy c w hG y h z hz with h|h
   ·exact .inl (.inr (.inl h))
   ·exact .inr (.inr (.inl h))
  ·rcases Wy s v hS y h z hz with h|h
   ·exact .inl (.inr (.inr h))
   ·exact .inr (.inr (.inr h))
theorem ab8 {pa:Int->Int->Prop}:∀(f:FT) (v:Int),(v::f.vs).Nodup->GF pa f v->∀{p w:Int},(p,w)∈f.pr v->∃c:FT,RtO pa w p c/\GF pa c w/\p∉w::c.vs
 | .nil,_,_,_,_,_,h=>by cases h
 | .nd u c s,v,hn,⟨⟨hR,hG⟩,hS⟩,p,w,h=>by
  have hn':(v::(u::(c.vs++s.vs))).Nodup:=hn;rw [List.nodup_cons,List.nodup_cons,List.nodup_append] at hn';obtain ⟨n1,n2,n3,n4,n5⟩:=hn';simp only [FT.pr,List.mem_cons,List.mem_append,Prod.mk.injEq] at h;rcases h with ⟨rfl,rfl⟩|h|h
  ·refine ⟨c,hR,hG,fun hm=>n1 ?_⟩;rw [List.mem_cons] at hm;rcases hm with hm|hm
   ·rw [hm];exact List.mem_cons_self ..
   ·exact List.mem_cons_of_mem _ (List.mem_append_left _ hm)
  ·exact ab8 c u (List.nodup_cons.2 ⟨fun hm=>n2 (List.mem_append_left _ hm),n3⟩) hG h
  ·exact ab8 s v (List.nodup_cons.2 ⟨fun hm=>n1 (List.mem_cons_of_mem _ (List.mem_append_right _ hm)),n4⟩) hS h
section
variable {n:Nat} {E:List Ed} (hE:∀e,e∈E->df n e=true) {v:Int} {f:FT} (h:GT n E v f)
include hE h
theorem GT.con (x:Int):x∈v::f.vs↔Con E v x:=by
 constructor
 ·intro hx;rw [List.mem_cons] at hx;rcases hx with rfl|hx
  ·exact .refl _
  ·refine RQ f v (Con E v) (.refl _) (fun a b hab ha => ?_) x hx;have:=ahQ f v (fun w hw=>((h.rt.2 w).1 hw).2) h.gf hab;have had:ad E a b:=by
    rcases this with h|h
    ·exact Od h
    ·exact h
   exact ha.trans (ab5 ((Oe hE).2 had))
 ·intro hc;have step:∀y z,y∈v::f.vs->ad E y z->z∈v::f.vs:=by
   intro y z hy hz;rw [List.mem_cons] at hy;rcases hy with rfl|hy
   ·have:=Og hE hz;exact List.mem_cons_of_mem _ (UV f ((h.rt.2 z).2 ⟨by omega,.inr hz⟩))
   ·rcases Cb f v h.gf y hy z (.inr hz) with h|h
    ·exact List.mem_cons_of_mem _ h
    ·rw [h];exact List.mem_cons_self ..
  induction hc with
  | refl=>exact List.mem_cons_self ..
  | fwd _ he ih=>exact step _ _ ih (.inl he)
  | bwd _ he ih=>exact step _ _ ih (.inr he)
theorem GT.bridge {p w:Int} (hp:(p,w)∈f.pr v):¬Con (mE E (ed p w)) w p:=by
 obtain ⟨c,c1,c2,c3⟩:=ab8 f v h.nd h.gf hp;intro hc;apply c3;have step:∀y z,y∈w::c.vs->ad E y z->ed y z≠ed p w->z∈w::c.vs:=by
  intro y z hy hz hne;rw [List.mem_cons] at hy;rcases hy with rfl|hy
  ·refine List.mem_cons_of_mem _ (UV c ((c1.2 z).2 ⟨?_,.inr hz⟩));rintro rfl;exact hne (uY _ _)
  ·rcases Cb c w c2 y hy z (.inr hz) with h|h
   ·exact List.mem_cons_of_mem _ h
   ·rw [h];exact List.mem_cons_self ..
 have all:∀x,Con (mE E (ed p w)) w x->x∈w::c.vs:=by
  intro x hc;induction hc with
  | refl=>exact List.mem_cons_self ..
  | fwd _ he ih=>
   obtain ⟨h1,h2⟩:=jE.1 he;have:=yw (hE _ h1);refine step _ _ ih (.inl h1) ?_;unfold ed at h2 ⊢;rw [if_pos this.2.1];exact h2
  | bwd _ he ih=>
   obtain ⟨h1,h2⟩:=jE.1 he;have:=yw (hE _ h1);refine step _ _ ih (.inr h1) ?_;rw [uY];unfold ed at h2 ⊢;rw [if_pos this.2.1];exact h2
 exact all p hc
theorem GT.edge {a b:Int} (ha:a∈v::f.vs) (hab:ad E a b):(a,b)∈f.pr v\/(b,a)∈f.pr v:=by
 rw [List.mem_cons] at ha;rcases ha with rfl|ha
 ·have:=Og hE hab;exact .inl (ab7 f a ((h.rt.2 b).2 ⟨by omega,.inr hab⟩))
 ·exact Wy f v h.gf a ha b (.inr hab)
omit hE in
theorem GT.trok (h12:n<=12):TrOk v f:=⟨h.nd,fun x hx=>by have:=h.rg x hx;omega⟩
end
theorem adK {n:Nat} {E:List Ed} (hE:∀e,e∈E->df n e=true) (h:∀e,e∈E->∃v f,GT n E v f/\e.1∈v::f.vs):NoCyc E:=by
 rintro ⟨a,b⟩ he hc;obtain ⟨v,f,hg,ha⟩:=h _ he;have hlt:=yw (hE _ he);simp only at hc ha hlt;have h1:ed a b=(a,b):=by unfold ed;rw [if_pos hlt.2.1]
 rcases hg.edge hE ha (.inl he) with h|h
 ·refine hg.bridge hE h ?_;rw [h1];exact hc.symm
 ·refine hg.bridge hE h ?_;rw [uY,h1];exact hc
structure FoOk (n:Nat) (E:List Ed) (Fs:List (Int × FT)):Prop where
 gt:∀p,p∈Fs->GT n E p.1 p.2
 mn:∀p,p∈Fs->∀x,x∈p.1::p.2.vs->p.1<=x
 so:Fs.Pairwise (fun p q=>p.1<q.1)
 cv:∀x:Int,0<=x->x<n->∃p,p∈Fs/\x∈p.1::p.2.vs
def tN (Fs:List (Int × FT)):List (List Int):=Fs.map fun p=>tr p.1 p.2
theorem qK {Fs:List (Int × FT)} {i:Nat} {p:Int × FT} (h:Fs[i]?=some p):(tN Fs)[i]?=some (tr p.1 p.2):=by
 unfold tN;rw [List.getElem?_map,h];rfl
theorem yC (Fs:List (Int × FT)):(tN Fs).length=Fs.length:=by unfold tN;rw [List.length_map]
section
variable {n:Nat} {E:List Ed} (hE:∀e,e∈E->df n e=true) {Fs:List (Int × FT)} (h:FoOk n E Fs)
include hE h
theorem FoOk.nocyc:NoCyc E:=adK hE fun e he=>by
 have:=yw (hE e he)
 obtain ⟨p,h1,h2⟩:=h.cv e.1 (by omega) (by omega)
 exact ⟨p.1,p.2,h.gt p h1,h2⟩
theorem FoOk.same {p q:Int × FT} (hp:p∈Fs) (hq:q∈Fs) {x y:Int} (hx:x∈p.1::p.2.vs) (hy:y∈q.1::q.2.vs) (hc:Con E x y):p.1=q.1:=by
 have c1:=((h.gt p hp).con hE x).1 hx;have c2:=((h.gt q hq).con hE y).1 hy;have c3:Con E p.1 q.1:=(c1.trans hc).trans c2.symm;have l1:=h.mn p hp q.1 (((h.gt p hp).con hE _).2 c3);have l2:=h.mn q hq p.1 (((h.gt q hq).con hE _).2 c3.symm);omega
theorem FoOk.idx {i j:Nat} {p q:Int × FT} (hp:Fs[i]?=some p) (hq:Fs[j]?=some q) {x y:Int} (hx:x∈p.1::p.2.vs) (hy:y∈q.1::q.2.vs) (hc:Con E x y):i=j:=by
 have h0:=h.same hE (List.mem_of_getElem? hp) (List.mem_of_getElem? hq) hx hy hc;obtain ⟨hi,rfl⟩:=aS hp;obtain ⟨hj,rfl⟩:=aS hq;by_cases h1:i<j
 ·have:=List.pairwise_iff_getElem.1 h.so i j hi hj h1;omega
 ·by_cases h2:j<i
  ·have:=List.pairwise_iff_getElem.1 h.so j i hj hi h2;omega
  ·omega
omit hE in
theorem FoOk.size:Fs.length<=n:=by
 have:=qg n (Fs.map (·.1)) (by
  have:(Fs.map (·.1)).Pairwise (· < ·):=by rw [List.pairwise_map];exact h.so
  exact this.imp fun h=>by omega) (fun x hx=>by
  obtain ⟨p,hp,rfl⟩:=List.mem_map.1 hx
  exact (h.gt p hp).rg _ (List.mem_cons_self ..))
 rwa [List.length_map] at this
end
theorem vQ {n:Nat} (L:List az) (k:Int) (h1:1<=n) (h2:n<=12) (hL:L.length<=1048576) (hE:∀e,e∈aG L k->df n e=true) :
  ∃r b,lK (((n:Int),L),k)=some ((r.1,r.2,b),())/\(b=true↔NoCyc (aG L k))/\(b=true->∃Fs,r=((n:Int),tN Fs)/\FoOk n (aG L k) Fs):=by
 have hm:maxLen=9223372036854775807:=by decide
 have hel:=Wx L k;show ∃r b,CK BIG _=_/\_;rw [acP,UW _ _ _ hL,ae,bI,show aU (n:Int) 1 12=true from aQ.2 (by omega),ae];simp only [aZ,aj];generalize hEE:aG L k=E at hE hel ⊢;refine bW (x:=(((0:Int),[]),((n:Int),[]),[],(0:Int))) (P:=fun o=>∃(r:Int × List (List Int)) (b:Bool),o=some ((r.1,r.2,b),())/\(b=true↔NoCyc E)/\(b=true->∃Fs,r=((n:Int),tN Fs)/\FoOk n E Fs))
  (fun (s:(Int × List (List Int)) × (Int × List (List Int)) × List Int × Int)=>∃(i:Nat) (Fs:List (Int × FT)),s.2.2.2=(i:Int)/\i<=n/\s.2.1=((n:Int),tN Fs)/\(∀x,x∈s.2.2.1↔∃p,p∈Fs/\x∈p.1::p.2.vs)/\(∀p,p∈Fs->GT n E p.1 p.2/\p.1<i)/\(∀p,p∈Fs->∀x,x∈p.1::p.2.vs->p.1<=x)/\Fs.Pairwise (fun p q=>p.1<q.1)/\(∀x:Int,0<=x->x<i->∃p,p∈Fs/\x∈p.1::p.2.vs)/\Fs.length<=i/\s.2.2.1.length<=25*i)
  (fun s=>n-s.2.2.2.toNat) (fun _ (b:((Int × List (List Int)) × (Int × List (List Int))) ⊕ ((Int × List (List Int)) × Bool))=>(∃d Fs,b = .inl (d,((n:Int),tN Fs))/\FoOk n E Fs)\/(∃r,b = .inr (r,false)/\¬NoCyc E)) (by simp [BIG];omega)
  ⟨0,[],rfl,by omega,rfl,by simp,by simp,by simp,by simp,fun x h1 h2=>by omega,by simp,by simp⟩ (fun self s hx hs => ?_) (fun b hb => ?_)
 ·obtain ⟨dm,fo,dn,j⟩:=s;obtain ⟨i,Fs,k1,k2,k3,k4,k5,k6,k7,k8,k9,k10⟩:=hx;simp only at k1 k2 k3 k4 k5 k6 k7 k8 k9 k10 hs ⊢;subst k1 k3;by_cases hi:i<n
  ·simp only [show ((i:Int)<(n:Int)) from by omega,decide_true,ah];rw [uZ dn i (by omega),ae];by_cases hin:(i:Int)∈dn
   ·simp only [ai hin,ah,ae];rw [bE (by omega)];refine hs _ ⟨i+1,Fs,rfl,by omega,rfl,k4,fun p hp=>⟨(k5 p hp).1,by have:=(k5 p hp).2;omega⟩,k6,k7,fun x x1 x2 => ?_,by omega,by simp only;omega⟩ (by simp;omega);by_cases hx:x=(i:Int)
    ·subst hx;exact (k4 _).1 hin
    ·exact k8 x x1 (by omega)
   ·simp only [au hin,aj];obtain ⟨t,b,t1,t2,t3⟩:=ahP hE h1 h2 (by omega) (i:Int) (by omega);rw [t1,ae];cases b with
    | false=>
     simp only [dM,ah,ae];refine ⟨_,rfl,.inr ⟨_,rfl,fun hN => ?_⟩⟩;have:=t3 hN;cases this
    | true=>
     obtain ⟨f,rfl,hg⟩:=t2 rfl;have hfl:f.vs.length<=11:=(hg.trok h2).len;simp only [aZ,aj];rw [ai (by simp only [yC,bA,List.length_nil];omega),ah,ai (by rw [tJ];omega),ah,ae];simp only;rw [bE (by omega)];have hmem:∀q,q∈Fs++[((i:Int),f)]↔q∈Fs\/q=((i:Int),f):=fun q=>by rw [List.mem_append,List.mem_singleton]
     refine hs _ ⟨i+1,Fs++[((i:Int),f)],rfl,by omega,by simp [tN],fun x => ?_,fun p hp => ?_,fun p hp => ?_,?_,fun x x1 x2 => ?_,by simp only [bZ,bA,List.length_nil];omega,by simp only [bZ,tJ];omega⟩ (by simp;omega)
     ·simp only [List.mem_append];rw [k4,tK];constructor
      ·rintro (⟨p,p1,p2⟩|h)
       ·exact ⟨p,.inl p1,p2⟩
       ·exact ⟨_,.inr (List.mem_singleton.2 rfl),h⟩
      ·rintro ⟨p,p1|p1,p2⟩
       ·exact .inl ⟨p,p1,p2⟩
       ·rw [List.mem_singleton] at p1;subst p1;exact .inr p2
     ·rcases (hmem p).1 hp with hp|rfl
      ·exact ⟨(k5 p hp).1,by have:=(k5 p hp).2;omega⟩
      ·exact ⟨hg,by simp only;omega⟩
     ·rcases (hmem p).1 hp with hp|rfl
      ·exact k6 p hp
      ·intro x hx;simp only at hx ⊢;apply Classical.byContradiction;intro hlt;obtain ⟨q,q1,q2⟩:=k8 x (hg.rg x hx).1 (by omega);have c1:=((k5 q q1).1.con hE x).1 q2;have c2:=(hg.con hE x).1 hx;exact hin ((k4 _).2 ⟨q,q1,((k5 q q1).1.con hE _).2 (c1.trans c2.symm)⟩)
     ·rw [List.pairwise_append];refine ⟨k7,by simp,fun a ha b hb => ?_⟩;rw [List.mem_singleton] at hb;subst hb;exact (k5 a ha).2
     ·by_cases hx:x=(i:Int)
      ·subst hx;exact ⟨_,(hmem _).2 (.inr rfl),List.mem_cons_self ..⟩
      ·obtain ⟨q,q1,q2⟩:=k8 x x1 (by omega);exact ⟨q,(hmem q).2 (.inl q1),q2⟩
  ·simp only [show ¬((i:Int)<(n:Int)) from by omega,decide_false,aj];have:i=n:=by omega
   subst this;exact ⟨_,rfl,.inl ⟨_,Fs,rfl,fun p hp=>(k5 p hp).1,k6,k7,k8⟩⟩
 ·rcases hb with ⟨d,Fs,rfl,hF⟩|⟨r,rfl,hN⟩
  ·exact ⟨((n:Int),tN Fs),true,rfl,⟨fun _=>hF.nocyc hE,fun _=>rfl⟩,fun _=>⟨Fs,rfl,hF⟩⟩
  ·exact ⟨r,false,rfl,⟨(fun h=>by cases h),fun h=>absurd h hN⟩,(fun h=>by cases h)⟩
theorem ap6 {V:List Int} {x:Int} (hs:V.Pairwise (· < ·)) (hx:x∈V) (hm:∀y,y∈V->x<=y):V[0]?=some x:=by
 cases V with
 | nil=>cases hx
 | cons y V=>
  rw [List.pairwise_cons] at hs;rw [List.mem_cons] at hx;have h1:=hm y (List.mem_cons_self ..);rcases hx with rfl|hx
  ·rfl
  ·have:=hs.1 x hx;omega
section
variable {n:Nat} {E:List Ed} (hE:∀e,e∈E->df n e=true) {Fs:List (Int × FT)} (h:FoOk n E Fs) (h12:n<=12)
include h h12
theorem FoOk.verts {p:Int × FT} (hp:p∈Fs):∃V,iA (tr p.1 p.2)=some (V,())/\V.Pairwise (· < ·)/\(∀x,x∈V↔x∈p.1::p.2.vs)/\V.length=(p.1::p.2.vs).length/\V[0]?=some p.1/\V.length<=12:=by
 have hg:=h.gt p hp;have hl:=(hg.trok h12).len;obtain ⟨V,v1,v2,v3,v4⟩:=ahO (tr p.1 p.2) (fun x hx=>(hg.trok h12).rg x ((tK _ _ _).1 hx)) (by rw [tJ];omega);have v5:∀x,x∈V↔x∈p.1::p.2.vs:=fun x=>by rw [v3,tK]
 have vn:V.Nodup:=v2.imp fun h=>by omega
 have l1:=jm V (p.1::p.2.vs) vn fun x hx=>(v5 x).1 hx
 have l2:=jm (p.1::p.2.vs) V hg.nd fun x hx=>(v5 x).2 hx
 exact ⟨V,v1,v2,v5,by omega,ap6 v2 ((v5 _).2 (List.mem_cons_self ..)) fun y hy=>h.mn p hp y ((v5 y).1 hy),v4⟩
include hE
theorem adL (h1:1<=n):CQ ((n:Int),tN Fs)=some (true,()):=by
 have hm:maxLen=9223372036854775807:=by decide
 have hsz:=h.size;have htl:=yC Fs;show CP BIG _=_;rw [acT,bI,show aU (n:Int) 1 12=true from aQ.2 (by omega),ae];simp only [aZ,aj];rw [au (by omega),ae];simp only [aj];refine bW (x:=((0:Int),(0:Int))) (P:=fun o=>o=some (true,())) (fun (s:Int × Int)=>∃(i:Nat) (acc:List Int),s.2=(i:Int)/\i<=Fs.length/\s.1=(acc.length:Int)/\acc.Nodup/\(∀x,x∈acc↔∃j:Nat,j<i/\∃p,Fs[j]?=some p/\x∈p.1::p.2.vs))
  (fun s=>Fs.length-s.2.toNat) (fun _ (b:Int ⊕ Bool)=>b = .inl (n:Int)) (by simp [BIG];omega) ⟨0,[],rfl,by omega,rfl,by simp,fun x=>by simp⟩ (fun self s hx hs => ?_) (fun b hb=>by subst hb;simp)
 obtain ⟨al,jj⟩:=s;obtain ⟨i,acc,k1,k2,k3,k4,k5⟩:=hx;simp only at k1 k2 k3 k4 k5 hs ⊢;subst k1 k3;have hrng:∀x,x∈acc->0<=x/\x<n:=fun x hx=>by
  obtain ⟨j,_,p,h2,h3⟩:=(k5 x).1 hx;exact (h.gt p (List.mem_of_getElem? h2)).rg x h3
 have hal:=qg n acc k4 hrng;by_cases hi:i<Fs.length
 ·have hp:=aO hi;generalize hpe:Fs[i]=p at hp;have hpm:=List.mem_of_getElem? hp;have hg:=h.gt p hpm;obtain ⟨V,v1,v2,v3,v4,v5,v6⟩:=h.verts h12 hpm;have hV0:0<V.length:=by rw [v4];simp
  have bi:∀{B:Type} {k:Nat->Option B},bnd (tN Fs).length (i:Int) k=k i:=fun {B k}=>aB (by omega)
  have hti:=qK hp;simp only [show ((i:Int)<((tN Fs).length:Int)) from by omega,decide_true,ah,bi,hti,ae,akH (hg.trok h12),aZ,aj,v1];have hwl:IntKind.wrap .i64 ((V.length:Int)-1)=((V.length-1:Nat):Int):=by rw [wr (by omega) (by omega)];omega
  have hlast:V[V.length-1]?=some V[V.length-1]:=aO (by omega);have hlr:=hg.rg _ ((v3 _).1 (List.getElem_mem (show V.length-1<V.length by omega)));rw [hwl,aB (by omega),hlast,ae,au (by omega),aj];have hcond:(bif decide ((0:Int)<(i:Int)) then
    bnd (tN Fs).length (IntKind.wrap .i64 ((i:Int)-(1:Int))) fun n12=>
    Option.bind (tN Fs)[n12]? fun y13=>
    Option.bind (iA y13) fun r14=>
    bnd r14.1.length (0:Int) fun n15=>
    Option.bind r14.1[n15]? fun y16=>
    bnd V.length (0:Int) fun n17=>
    Option.bind V[n17]? fun y18=>
    some (decide (y18<=y16))
    else some false)=some false:=by
   by_cases h0:0<i
   ·have hw:IntKind.wrap .i64 ((i:Int)-1)=((i-1:Nat):Int):=by rw [wr (by omega) (by omega)];omega
    have hq:=aO (show i-1<Fs.length by omega);generalize hqe:Fs[i-1]=q at hq;obtain ⟨W,w1,w2,w3,w4,w5,w6⟩:=h.verts h12 (List.mem_of_getElem? hq);have hW0:0<W.length:=by rw [w4];simp
    have hlt:=List.pairwise_iff_getElem.1 h.so (i-1) i (by omega) hi (by omega);rw [hqe,hpe] at hlt;rw [ai (by omega),ah,hw,aB (by omega),qK hq,ae,w1,ae,bn (by omega) (by simp only;omega)];simp only;rw [show Int.toNat 0=0 from rfl,w5,ae,bn (by omega) (by omega),show Int.toNat 0=0 from rfl,v5,ae,au (by omega)]
   ·rw [au (by omega),aj]
  rw [hcond,ae,aj];refine bW (x:=(0:Int)) (P:=fun o=>∃b:Int ⊕ Bool,o=some b/\b = .inl (n:Int)) (fun (s:Int)=>∃j:Nat,s=(j:Int)/\j<=i) (fun s=>i-s.toNat) (fun _ (b:Int ⊕ Bool)=>b = .inl (((acc++(p.1::p.2.vs)).length:Nat):Int)) (by simp [BIG];omega) ⟨0,rfl,by omega⟩ (fun self2 s hx2 hs2 => ?_) (fun b hb => ?_)
  ·obtain ⟨j,rfl,hj⟩:=hx2;by_cases hji:j<i
   ·have hq:=aO (show j<Fs.length by omega);generalize hqe:Fs[j]=q at hq;have htj:=qK hq;have bj:∀{B:Type} {k:Nat->Option B},bnd (tN Fs).length (j:Int) k=k j:=fun {B k}=>aB (by omega)
    have hql:=((h.gt q (List.mem_of_getElem? hq)).trok h12).len;simp only [show ((j:Int)<(i:Int)) from by omega,decide_true,ah,bj,htj,ae];rw [tL V (by omega) (fun y=>decide (y∈tr q.1 q.2)) false (fun self3 m y hy => ?_) (fun self3=>by simp)]
    ·have hno:V.any (fun y=>decide (y∈tr q.1 q.2))=false:=by
      rw [List.any_eq_false];intro y hy;rw [decide_eq_true_eq,tK];intro hy2;have:=h.idx hE hq hp hy2 ((v3 y).1 hy) (.refl _);omega
     rw [hno];simp only [Bool.false_eq_true,if_false,ae];rw [bE (by omega)];exact hs2 _ ⟨j+1,rfl,by omega⟩ (by simp;omega)
    ·have hm':=(aS hy).1;simp only [show ((m:Int)<(V.length:Int)) from by omega,decide_true,ah];rw [aB hm',hy,ae,uZ _ _ (by rw [tJ];omega),ae,bE (by omega)];by_cases hy':y∈tr q.1 q.2<;>simp [hy']
   ·simp only [show ¬((j:Int)<(i:Int)) from by omega,decide_false,aj];refine ⟨_,rfl,?_⟩;rw [wr (by omega) (by omega),bZ,<-v4];rfl
  ·subst hb;simp only;rw [bE (by omega)];refine hs _ ⟨i+1,acc++(p.1::p.2.vs),rfl,hi,rfl,?_,fun x => ?_⟩ (by simp;omega)
   ·rw [List.nodup_append];refine ⟨k4,hg.nd,fun a ha b hb hab => ?_⟩;subst hab;obtain ⟨j,j1,q,q1,q2⟩:=(k5 a).1 ha;have:=h.idx hE q1 hp q2 hb (.refl _);omega
   ·rw [List.mem_append,k5];constructor
    ·rintro (⟨j,j1,j2⟩|hx)
     ·exact ⟨j,by omega,j2⟩
     ·exact ⟨i,by omega,p,hp,hx⟩
    ·rintro ⟨j,j1,q,q1,q2⟩;by_cases hji:j=i
     ·subst hji;rw [hp] at q1;cases q1;exact .inr q2
     ·exact .inl ⟨j,by omega,q,q1,q2⟩
 ·simp only [show ¬((i:Int)<((tN Fs).length:Int)) from by omega,decide_false,aj];refine ⟨_,rfl,?_⟩;have hin:i=Fs.length:=by omega
  subst hin;have hge:=jm ((List.range n).map fun (x:Nat)=>(x:Int)) acc (RU _ _ List.nodup_range fun a _ b _ h=>by omega) fun x hx=>by
   obtain ⟨y,hy,rfl⟩:=List.mem_map.1 hx;rw [List.mem_range] at hy;obtain ⟨p,p1,p2⟩:=h.cv (y:Int) (by omega) (by omega);obtain ⟨j,hj,hjp⟩:=List.mem_iff_getElem.1 p1;exact (k5 _).2 ⟨j,hj,p,by rw [aO hj,hjp],p2⟩
  rw [List.length_map,List.length_range] at hge;rw [show acc.length=n from by omega]
theorem mZ (h1:1<=n) (x:Int) (h0:0<=x) (hx:x<n):∃(j:Nat) (p:Int × FT),Fs[j]?=some p/\x∈p.1::p.2.vs/\jY (((n:Int),tN Fs),x)=some ((j:Int),()):=by
 have hm:maxLen=9223372036854775807:=by decide
 have hsz:=h.size;have htl:=yC Fs;show ∃(j:Nat) (p:Int × FT),_/\_/\KY BIG _=_;rw [ajv,adL hE h h12 h1,ae];simp only [aZ,aj];refine bW (x:=(0:Int)) (P:=fun o=>∃(j:Nat) (p:Int × FT),Fs[j]?=some p/\x∈p.1::p.2.vs/\o=some ((j:Int),())) (fun (s:Int)=>∃i:Nat,s=(i:Int)/\i<=Fs.length/\∀j p,j<i->Fs[j]?=some p->x∉p.1::p.2.vs) (fun s=>Fs.length-s.toNat)
  (fun _ (b:Unit ⊕ Int)=>∃(j:Nat) (p:Int × FT),Fs[j]?=some p/\x∈p.1::p.2.vs/\b = .inr (j:Int)) (by simp [BIG];omega) ⟨0,rfl,by omega,fun j p hj=>by omega⟩ (fun self s hx' hs => ?_) (fun b hb => ?_)
 ·obtain ⟨i,rfl,k2,k3⟩:=hx';by_cases hi:i<Fs.length
  ·have hp:=aO hi;generalize hpe:Fs[i]=p at hp;have hl:=((h.gt p (List.mem_of_getElem? hp)).trok h12).len;simp only [show ((i:Int)<((tN Fs).length:Int)) from by omega,decide_true,ah];rw [aB (by omega),qK hp,ae,uZ _ _ (by rw [tJ];omega),ae,bE (by omega)];by_cases hin:x∈tr p.1 p.2
   ·simp only [ai hin,ah];exact ⟨_,rfl,i,p,hp,(tK _ _ _).1 hin,rfl⟩
   ·simp only [au hin,aj];refine hs _ ⟨i+1,rfl,hi,fun j q hj hq => ?_⟩ (by simp;omega);by_cases hji:j=i
    ·subst hji;rw [hp] at hq;cases hq;rw [<-tK];exact hin
    ·exact k3 j q (by omega) hq
  ·exfalso;obtain ⟨p,p1,p2⟩:=h.cv x h0 hx;obtain ⟨j,hj,hjp⟩:=List.mem_iff_getElem.1 p1;exact k3 j p (by omega) (by rw [aO hj,hjp]) p2
 ·obtain ⟨j,p,h1,h2,rfl⟩:=hb;exact ⟨j,p,h1,h2,rfl⟩
end
def gE (L:List az):List Ed:=L.map fun x=>(x.1,x.2.1)
def lH (L:List az):List Ed:=(L.filter fun x=>x.2.2.2).map fun x=>(x.1,x.2.1)
def aY (n:Nat) (L:List az) (k:Int) (v:Int):Int:=(labs n (aG L k)).getD v.toNat 0
def cmp (n:Nat) (L:List az) (k:Int) (v:Int):Nat:=(labs n (aG L k)).count (aY n L k v)
structure WOk (n:Nat) (L:List az):Prop where
 gr:fD n (gE L)=true
 lv:∀x,x∈L->0<=x.2.2.1/\x.2.2.1<=4
 nc:NoCyc (aG L 0)
 un:∀x,x∈L->x.2.2.2=false->aY n L x.2.2.1 x.1=aY n L x.2.2.1 x.2.1
 sz:∀k:Nat,1<=k->k<=4->∀e,e∈aG L k->cmp n L k e.1<=n / 2 ^ k
theorem Oi (L:List az) (k:Int):(aG L k).Sublist (gE L):=List.Sublist.map _ List.filter_sublist
theorem Wz (L:List az):(lH L).Sublist (gE L):=List.Sublist.map _ List.filter_sublist
theorem qh {L:List az} {j k:Int} (h:j<=k):∀e,e∈aG L k->e∈aG L j:=by
 intro e he;unfold aG at he ⊢;rw [List.mem_map] at he ⊢;obtain ⟨x,h1,h2⟩:=he;refine ⟨x,?_,h2⟩;simp only [List.mem_filter,aP,decide_eq_true_eq] at h1 ⊢;exact ⟨h1.1,h1.2.1,by omega⟩
theorem ahR {L:List az} (h:∀x,x∈L->0<=x.2.2.1/\x.2.2.1<=4):lH L=aG L 0:=by
 unfold lH aG;congr 1;apply List.filter_congr;intro x hx;rw [ai (h x hx).1,Bool.and_true]
section
variable {n:Nat} {L:List az} (hg:fD n (gE L)=true)
include hg
theorem xh:1<=n/\n<=12:=by
 unfold fD at hg;rw [aP,aQ] at hg;omega
theorem il:(∀e,e∈gE L->df n e=true)/\(gE L).Nodup/\L.length<=66:=by
 unfold fD at hg;rw [aP] at hg;obtain ⟨h1,h2,h3⟩:=ik hg.2;refine ⟨h1,h2.imp fun {a b} h => ?_,by unfold gE at h3;rwa [List.length_map] at h3⟩;rintro rfl;unfold lsB at h;simp at h
theorem Cc (k:Int):(∀e,e∈aG L k->df n e=true)/\(aG L k).Nodup/\(aG L k).length<=66:=by
 obtain ⟨h1,h2,h3⟩:=il hg;refine ⟨fun e he=>h1 e ((Oi L k).subset he),h2.sublist (Oi L k),?_⟩;have:=(Oi L k).length_le;unfold gE at this;rw [List.length_map] at this;omega
theorem gF (k:Int):kz n (aG L k):=fun e he=>by
 have:=dF ((Cc hg k).1 e he)
 exact ⟨this.1,this.2.1,this.2.2.1,this.2.2.2.1⟩
theorem iL (k:Int) {u v:Int} (hu:0<=u/\u<n) (hv:0<=v/\v<n):aY n L k u=aY n L k v↔Con (aG L k) u v:=by
 have hl:=iK (gF hg k);have:=hl.iff (getD_at (show u.toNat<(labs n (aG L k)).length by rw [bV];omega)) (getD_at (show v.toNat<(labs n (aG L k)).length by rw [bV];omega));rw [Int.toNat_of_nonneg hu.1,Int.toNat_of_nonneg hv.1] at this;exact this
end
theorem Yy (n:Int) (L:List az) (k:Int) (hL:L.length<=1048576):BQ ((n,L),k)=some (aG L k,()):=by
 rw [<-UW n L k hL];show MS BIG _=xP BIG _;rw [aj5,Tw];all_goals rfl
theorem ab9 (n:Int) (L:List az) (hL:L.length<=1048576):Ar (n,L)=some (lH L,()):=by
 have hm:maxLen=9223372036854775807:=by decide
 have hle:∀L:List az,(lH L).length<=L.length:=fun L=>by
  unfold lH;rw [List.length_map];exact List.length_filter_le _ _
 show Aq BIG _=_;rw [abu];refine bW (x:=([],(0:Int))) (P:=fun o=>o=some (lH L,())) (fun (s:List Ed × Int)=>∃i:Nat,s.2=i/\i<=L.length/\s.1=lH (L.take i)) (fun s=>L.length-s.2.toNat)
  (fun _ (V:List Ed)=>V=lH L) (by simp [BIG];omega) ⟨0,rfl,by omega,rfl⟩ (fun self s hx hs => ?_) (fun V hV=>by rw [hV])
 obtain ⟨s,j⟩:=s;obtain ⟨i,h1,h2,h3⟩:=hx;simp only at h1 h2 h3 hs ⊢;subst h1;by_cases hi:i<L.length
 ·have hle':=hle (L.take i);rw [List.length_take] at hle';simp only [show ((i:Int)<(L.length:Int)) from by omega,decide_true,ah];rw [aB hi,aO hi,ae,bE (by omega)];have hn:lH (L.take (i+1))=lH (L.take i)++(if L[i].2.2.2=true then [(L[i].1,L[i].2.1)] else []):=by
   unfold lH;rw [List.take_succ_eq_append_getElem hi,List.filter_append,List.map_append];congr 1;by_cases h1:L[i].2.2.2=true<;>simp [h1]
  cases ht:L[i].2.2.2 with
  | false=>
   rw [aj,ae];exact hs _ ⟨i+1,rfl,hi,by simp only;rw [hn,if_neg (by rw [ht];simp),List.append_nil,h3]⟩ (by simp;omega)
  | true=>
   rw [ah,ai (by rw [h3];simp only [bA,List.length_nil];omega),ah,ae];exact hs _ ⟨i+1,rfl,hi,by simp only;rw [hn,if_pos ht,h3]⟩ (by simp;omega)
 ·simp only [show ¬((i:Int)<(L.length:Int)) from by omega,decide_false,aj];have:i=L.length:=by omega
  subst this;exact ⟨_,rfl,by rw [h3,List.take_length]⟩
theorem oJ {n:Nat} (L:List az) (k:Int) (h12:n<=12) (hL:L.length<=1048576) (hE:kz n (aG L k)):ku (((n:Int),L),k)=some (labs n (aG L k),()):=by
 have hm:maxLen=9223372036854775807:=by decide
 have hel:=Wx L k;show Ea BIG _=_;rw [adn,RN n (by omega),ae,Yy _ _ _ hL,ae];generalize aG L k=E at hE hel ⊢;refine bW (x:=(qb n,(0:Int))) (P:=fun o=>o=some (labs n E,())) (fun (s:List Int × Int)=>∃i:Nat,s.2=i/\i<=E.length/\s.1=labs n (E.take i)) (fun s=>E.length-s.2.toNat)
  (fun _ (V:List Int)=>V=labs n E) (by simp [BIG];omega) ⟨0,rfl,by omega,rfl⟩ (fun self s hx hs => ?_) (fun V hV=>by rw [hV])
 obtain ⟨s,j⟩:=s;obtain ⟨i,h1,h2,h3⟩:=hx;simp only at h1 h2 h3 hs ⊢;subst h1 h3;by_cases hi:i<E.length
 ·have he:=hE _ (List.getElem_mem hi);have hll:=bV n (E.take i);simp only [show ((i:Int)<(E.length:Int)) from by omega,decide_true,ah];rw [aB hi,aO hi,ae,Jk _ _ _ he.1 (by omega) he.2.2.1 (by omega) (by omega),ae,bE (by omega)];refine hs _ ⟨i+1,rfl,hi,?_⟩ (by simp;omega);simp only;unfold labs;rw [List.take_succ_eq_append_getElem hi,List.foldl_append];rfl
 ·simp only [show ¬((i:Int)<(E.length:Int)) from by omega,decide_false,aj];have:i=E.length:=by omega
  subst this;exact ⟨_,rfl,by rw [List.take_length]⟩
theorem RV (l:List Int) (c:Int) (hl:l.length<=1048576):Au (l,c)=some ((l.count c:Int),()):=by
 have hm:maxLen=9223372036854775807:=by decide
 show Rq BIG _=_;rw [alX];refine bW (x:=((0:Int),(0:Int))) (P:=fun o=>o=some ((l.count c:Int),())) (fun (s:Int × Int)=>∃i:Nat,s.2=i/\i<=l.length/\s.1=((l.take i).count c:Int)) (fun s=>l.length-s.2.toNat)
  (fun _ (V:Int)=>V=(l.count c:Int)) (by simp [BIG];omega) ⟨0,rfl,by omega,by simp⟩ (fun self s hx hs => ?_) (fun V hV=>by rw [hV])
 obtain ⟨s,j⟩:=s;obtain ⟨i,h1,h2,h3⟩:=hx;simp only at h1 h2 h3 hs ⊢;subst h1 h3;by_cases hi:i<l.length
 ·have hc:(l.take i).count c<=(l.take i).length:=List.count_le_length;rw [List.length_take] at hc;simp only [show ((i:Int)<(l.length:Int)) from by omega,decide_true,ah];rw [aB hi,aO hi,ae];have hn:(l.take (i+1)).count c=(l.take i).count c+(if l[i]=c then 1 else 0):=by
   rw [List.take_succ_eq_append_getElem hi,List.count_append,List.count_singleton];by_cases h:l[i]=c<;>simp [h]
  by_cases h:l[i]=c
  ·rw [ai h,ah,bE (i:=List.count c (List.take i l)) (by omega),ae,bE (i:=i) (by omega)];exact hs _ ⟨i+1,rfl,hi,by simp only;rw [hn,if_pos h]⟩ (by simp;omega)
  ·rw [au h,aj,ae,bE (i:=i) (by omega)];exact hs _ ⟨i+1,rfl,hi,by simp only;rw [hn,if_neg h,Nat.add_zero]⟩ (by simp;omega)
 ·simp only [show ¬((i:Int)<(l.length:Int)) from by omega,decide_false,aj];have:i=l.length:=by omega
  subst this;exact ⟨_,rfl,by rw [List.take_length]⟩
section
variable {n:Nat} {L:List az} (hg:fD n (gE L)=true)
include hg
theorem ahS (k:Nat) (hk:k<=4):IJ (((n:Int),L),(k:Int))=some (decide (∀e,e∈aG L k->cmp n L k e.1<=n / 2 ^ k),()):=by
 have hm:maxLen=9223372036854775807:=by decide
 obtain ⟨h1,h12⟩:=xh hg;obtain ⟨_,_,hL⟩:=il hg;obtain ⟨hE,hEn,hEl⟩:=Cc hg k;have hll:=bV n (aG L k);show II BIG _=_;rw [ahp,oJ L k h12 (by omega) (gF hg k),ae,Yy _ _ _ (by omega),ae];simp only;rw [tL (aG L k) (by omega) (fun e=>decide (n / 2 ^ k<cmp n L k e.1)) false (fun self i y hy => ?_) (fun self=>by simp)]
 ·by_cases h:∀e,e∈aG L k->cmp n L k e.1<=n / 2 ^ k
  ·rw [ai h,if_neg]
   ·rfl
   ·intro h';obtain ⟨y,hy,hp⟩:=List.any_eq_true.1 h';rw [decide_eq_true_eq] at hp;have:=h y hy;omega
  ·rw [au h,if_pos]
   ·rfl
   ·apply Classical.byContradiction;intro hno;refine h fun e he => ?_
    apply Classical.byContradiction;intro hlt;exact hno (List.any_eq_true.2 ⟨e,he,by rw [decide_eq_true_eq];omega⟩)
 ·have hi:=(aS hy).1;have he:=dF (hE y (List.mem_of_getElem? hy));simp only [show ((i:Int)<((aG L k).length:Int)) from by omega,decide_true,ah];rw [aB hi,hy,ae,bn he.1 (by omega),getD_at (by omega),ae,RV _ _ (by omega),ae,au (by omega),aj,bE (by omega)];have h64:Nat.min (Int.toNat (k:Int)) (IntKind.bits .i64)=k:=by
   rw [fH];exact Nat.min_eq_left (by show k<=64;omega)
  have hdiv:Int.fdiv (n:Int) (2 ^ (Nat.min (Int.toNat (k:Int)) (IntKind.bits .i64)))=((n / 2 ^ k:Nat):Int):=by
   rw [h64,Int.fdiv_eq_ediv_of_nonneg _ (by exact_mod_cast Nat.zero_le (2 ^ k))];simp
  rw [hdiv];show (bif decide (((n / 2 ^ k:Nat):Int)<(cmp n L k y.1:Int)) then _ else _)=_;by_cases hc:n / 2 ^ k<cmp n L k y.1
  ·rw [ai (by omega),ai hc];rfl
  ·rw [au (by omega),au hc];rfl
end
theorem Jq (n:Int) (L:List az) (hL:L.length<=1048576):∃b,uW (n,L)=some (b,())/\(b=true↔0<=n/\WOk n.toNat L):=by
 have hm:maxLen=9223372036854775807:=by decide
 show ∃b,Rv BIG _=_/\_;have hG:jc (n,L)=some ((n,gE L),()):=yn n L hL;rw [alZ,hG,ae,UJ _ _ (by unfold gE;rw [List.length_map];exact hL),ae];by_cases hg:fD n (gE L)=true;case neg=>
  rw [show fD n (gE L)=false by simpa using hg];simp only [dM,ah,ae];refine ⟨false,rfl,⟨(fun h=>by cases h),fun ⟨h1,h2⟩ => ?_⟩⟩;have:=h2.gr;rw [Int.toNat_of_nonneg h1] at this;exact absurd this hg
 obtain ⟨m,rfl⟩:∃m:Nat,n=(m:Int):=by
  have:1<=n:=by
   have h:=hg;unfold fD at h;rw [aP,aQ] at h;omega
  exact ⟨n.toNat,by omega⟩
 rw [hg,fH];obtain ⟨h1,h12⟩:=xh hg;obtain ⟨hgE,hgn,hL6⟩:=il hg;simp only [aZ,aj];rw [ab9 _ _ hL,ae];have htl:(lH L).length<=66:=by
  have:=(Wz L).length_le;unfold gE at this;rw [List.length_map] at this;omega
 obtain ⟨b,b1,b2⟩:=amb m (lH L) h1 h12 (by omega) (fun e he=>hgE e ((Wz L).subset he));rw [amc (hgn.sublist (Wz L))] at b2;rw [b1,ae,ae];cases b with
 | true=>
  rw [ah];refine ⟨false,rfl,⟨(fun h=>by cases h),fun ⟨_,h2⟩ => ?_⟩⟩;have:=h2.nc;rw [<-ahR h2.lv] at this;exact absurd this (b2.1 rfl)
 | false=>
  have hnc:NoCyc (lH L):=by
   apply Classical.byContradiction;intro h;have:=b2.2 h;cases this
  rw [aj];rw [tL L (by omega) (fun x=>!aU x.2.2.1 0 4 || (!x.2.2.2 && !decide (aY m L x.2.2.1 x.1=aY m L x.2.2.1 x.2.1))) false (fun self i y hy => ?_) (fun self=>by simp)]
  ·by_cases hA:L.any (fun x=>!aU x.2.2.1 0 4 || (!x.2.2.2 && !decide (aY m L x.2.2.1 x.1=aY m L x.2.2.1 x.2.1)))=true
   ·rw [if_pos hA];refine ⟨false,rfl,⟨(fun h=>by cases h),fun ⟨_,h2⟩ => ?_⟩⟩;obtain ⟨x,hx,hp⟩:=List.any_eq_true.1 hA;rw [show aU x.2.2.1 0 4=true from aQ.2 (h2.lv x hx)] at hp;cases ht:x.2.2.2 with
    | true=>rw [ht] at hp;simp at hp
    | false=>
     rw [ht,ai (h2.un x hx ht)] at hp;simp at hp
   ·rw [if_neg hA,ae];have hlu:∀x,x∈L->(0<=x.2.2.1/\x.2.2.1<=4)/\(x.2.2.2=false->aY m L x.2.2.1 x.1=aY m L x.2.2.1 x.2.1):=by
     intro x hx;have hp:¬(!aU x.2.2.1 0 4 || (!x.2.2.2 && !decide (aY m L x.2.2.1 x.1=aY m L x.2.2.1 x.2.1)))=true:=fun h=>hA (List.any_eq_true.2 ⟨x,hx,h⟩)
     rw [Bool.or_eq_true,not_or] at hp;constructor
     ·have:=hp.1;cases hb:aU x.2.2.1 0 4 with
      | true=>exact aQ.1 hb
      | false=>rw [hb] at this;simp at this
     ·intro ht;have:=hp.2;rw [ht] at this;by_cases hl:aY m L x.2.2.1 x.1=aY m L x.2.2.1 x.2.1
      ·exact hl
      ·rw [au hl] at this;simp at this
    simp only;refine bW (x:=(1:Int)) (P:=fun o=>∃b,o=some (b,())/\(b=true↔0<=(m:Int)/\WOk m L)) (fun (s:Int)=>∃k:Nat,s=(k:Int)/\1<=k/\k<=5/\∀j:Nat,1<=j->j<k->∀e,e∈aG L j->cmp m L j e.1<=m / 2 ^ j) (fun s=>5-s.toNat)
     (fun _ (b:Unit ⊕ Bool)=>(b = .inl ()/\∀k:Nat,1<=k->k<=4->∀e,e∈aG L k->cmp m L k e.1<=m / 2 ^ k)\/(b = .inr false/\¬∀k:Nat,1<=k->k<=4->∀e,e∈aG L k->cmp m L k e.1<=m / 2 ^ k)) (by simp [BIG]) ⟨1,rfl,by omega,by omega,fun j h1 h2=>by omega⟩ (fun self s hx hs => ?_) (fun b hb => ?_)
    ·obtain ⟨k,rfl,k1,k2,k3⟩:=hx;by_cases hk:k<=4
     ·rw [ai (by omega),ah,ahS hg k hk,ae,bE (by omega)];by_cases hc:∀e,e∈aG L k->cmp m L k e.1<=m / 2 ^ k
      ·simp only [ai hc,aZ,aj];refine hs _ ⟨k+1,rfl,by omega,by omega,fun j j1 j2 => ?_⟩ (by simp;omega);by_cases hjk:j=k
       ·subst hjk;exact hc
       ·exact k3 j j1 (by omega)
      ·simp only [au hc,dM,ah];exact ⟨_,rfl,.inr ⟨rfl,fun h=>hc (h k k1 hk)⟩⟩
     ·rw [au (by omega),aj];exact ⟨_,rfl,.inl ⟨rfl,fun j j1 j2=>k3 j j1 (by omega)⟩⟩
    ·rcases hb with ⟨rfl,h⟩|⟨rfl,h⟩
     ·refine ⟨true,rfl,⟨fun _=>⟨by omega,hg,fun x hx=>(hlu x hx).1,?_,fun x hx=>(hlu x hx).2,h⟩,fun _=>rfl⟩⟩;rw [<-ahR fun x hx=>(hlu x hx).1];exact hnc
     ·exact ⟨false,rfl,⟨(fun h=>by cases h),fun ⟨_,h2⟩=>absurd h2.sz h⟩⟩
  ·have hi:=(aS hy).1;have hye:=dF (hgE (y.1,y.2.1) (List.mem_map.2 ⟨y,List.mem_of_getElem? hy,rfl⟩));simp only at hye;simp only [show ((i:Int)<(L.length:Int)) from by omega,decide_true,ah];rw [aB hi,hy,ae,gY,ae,bE (by omega)];cases hb:aU y.2.2.1 0 4 with
   | false=>rfl
   | true=>
    have hll:=bV m (aG L y.2.2.1);simp only [aZ,aj,Bool.false_or];rw [oJ L y.2.2.1 h12 hL (gF hg _),ae];cases ht:y.2.2.2 with
    | true=>rfl
    | false=>
     simp only [dM,ah,Bool.true_and];rw [bn hye.1 (by omega),getD_at (by omega),ae,bn hye.2.2.1 (by omega),getD_at (by omega),ae,ae];show (Option.bind (bif !decide (aY m L y.2.2.1 y.1=aY m L y.2.2.1 y.2.1) then _ else _) _)=_;cases decide (aY m L y.2.2.1 y.1=aY m L y.2.2.1 y.2.1)<;>rfl
theorem Nq (n:Nat) (L:List az) (hL:L.length<=1048576):∃V,mW ((n:Int),L)=some (V,())/\(WOk n L->V=labs n (aG L 0))/\(¬WOk n L->V=[]):=by
 obtain ⟨b,b1,b2⟩:=Jq n L hL;rw [fH] at b2;show ∃V,Az BIG _=_/\_;rw [abB,b1,ae];cases b with
 | false=>exact ⟨[],rfl,fun h=>(by have:=b2.2 ⟨by omega,h⟩;cases this),fun _=>rfl⟩
 | true=>
  have h:=(b2.1 rfl).2;have hg:=h.gr;refine ⟨labs n (aG L 0),?_,fun _=>rfl,fun hn=>absurd h hn⟩;simp only [aZ,aj];rw [oJ L 0 (xh hg).2 hL (gF hg 0)];rfl
theorem akI (l:List Int) (c:Int):l.count c=((List.range l.length).filter fun i=>decide (l.getD i 0=c)).length:=by
 have h:l=(List.range l.length).map (fun i=>l.getD i 0):=by
  apply List.ext_getElem
  ·simp
  ·intro i h1 h2;rw [List.getElem_map,List.getElem_range,bJ,aO h1];rfl
 conv=>lhs;rw [h]
 rw [List.count,List.countP_map,List.countP_eq_length_filter];congr 1
section
variable {n:Nat} {L:List az} (hg:fD n (gE L)=true)
include hg
theorem Jr {k:Int} {Fs:List (Int × FT)} (hF:FoOk n (aG L k) Fs) {p:Int × FT} (hp:p∈Fs):(p.1::p.2.vs).length=cmp n L k p.1:=by
 have hE:=(Cc hg k).1;have hG:=hF.gt p hp;have hp0:=hG.rg p.1 (List.mem_cons_self ..);unfold cmp;rw [akI,bV];have hm:∀x:Int,x∈p.1::p.2.vs↔x∈((List.range n).filter fun i=>decide ((labs n (aG L k)).getD i 0=aY n L k p.1)).map fun (i:Nat)=>(i:Int):=by
  intro x;rw [List.mem_map];constructor
  ·intro hx;have hr:=hG.rg x hx;refine ⟨x.toNat,?_,by omega⟩;rw [List.mem_filter,List.mem_range,decide_eq_true_eq];refine ⟨by omega,?_⟩;exact (iL hg k hr hp0).2 ((hG.con hE x).1 hx).symm
  ·rintro ⟨y,hy,rfl⟩;rw [List.mem_filter,List.mem_range,decide_eq_true_eq] at hy;refine (hG.con hE _).2 ?_;have:aY n L k (y:Int)=aY n L k p.1:=by
    unfold aY;rw [fH];exact hy.2
   exact ((iL hg k (by omega) hp0).1 this).symm
 have hn2:(((List.range n).filter fun i=>decide ((labs n (aG L k)).getD i 0=aY n L k p.1)).map fun (i:Nat)=>(i:Int)).Nodup:=
  RU _ _ ((List.nodup_range (n:=n)).sublist List.filter_sublist) fun a _ b _ h=>by omega
 have l1:=jm _ _ hG.nd fun x hx=>(hm x).1 hx
 have l2:=jm _ _ hn2 fun x hx=>(hm x).2 hx
 rw [List.length_map] at l1 l2;omega
theorem Js {k:Int} {u v:Int} (hu:0<=u/\u<n) (hv:0<=v/\v<n) (h:Con (aG L k) u v):cmp n L k u=cmp n L k v:=by
 unfold cmp;rw [(iL hg k hu hv).2 h]
theorem akJ {k:Int} {Fs:List (Int × FT)} (hF:FoOk n (aG L k) Fs) (B:Nat):(∀p,p∈Fs->1<(p.1::p.2.vs).length->(p.1::p.2.vs).length<=B)↔∀e,e∈aG L k->cmp n L k e.1<=B:=by
 have hE:=(Cc hg k).1;constructor
 ·intro h e he;have hr:=dF (hE e he);obtain ⟨p,hp,hx⟩:=hF.cv e.1 hr.1 hr.2.1;have hG:=hF.gt p hp;have hc:=(hG.con hE e.1).1 hx;have hx2:e.2∈p.1::p.2.vs:=(hG.con hE e.2).2 (.fwd hc he);have hne:e.1≠e.2:=by omega
  have hlen:1<(p.1::p.2.vs).length:=by
   have:=jm [e.1,e.2] (p.1::p.2.vs) (by simp [hne]) (fun y hy=>by
    simp only [List.mem_cons,List.not_mem_nil,or_false] at hy
    rcases hy with rfl|rfl
    ·exact hx
    ·exact hx2)
   simp only [bA,List.length_nil] at this ⊢;omega
  have:=h p hp hlen;rw [Jr hg hF hp,Js hg (hG.rg _ (List.mem_cons_self ..)) ⟨hr.1,hr.2.1⟩ hc] at this;exact this
 ·intro h p hp hlen;have hG:=hF.gt p hp;have hp0:=hG.rg p.1 (List.mem_cons_self ..);obtain ⟨u,hu⟩:∃u,u∈p.2.vs:=by
   cases hv:p.2.vs with
   | nil=>rw [hv] at hlen;simp at hlen
   | cons u _=>exact ⟨u,List.mem_cons_self ..⟩
  have hne:u≠p.1:=by
   rintro rfl;exact (List.nodup_cons.1 hG.nd).1 hu
  have hc:=(hG.con hE u).1 (List.mem_cons_of_mem _ hu);obtain ⟨x,y,d1,d2,d3⟩:=abM (D:=fun z=>z=p.1) hc rfl hne;subst d1;rw [Jr hg hF hp];rcases d3 with d3|d3
  ·exact h _ d3
  ·have hr:=dF (hE _ d3);simp only at hr;rw [Js hg hp0 ⟨hr.1,hr.2.1⟩ (.bwd (.refl _) d3)];exact h _ d3
def ahT (n:Nat) (L:List az) (k:Nat):Prop:=NoCyc (aG L k)/\(∀e,e∈aG L k->cmp n L k e.1<=n / 2 ^ k)/\∀x,x∈L->x.2.2.2=false->x.2.2.1=k->aY n L k x.1=aY n L k x.2.1
theorem afs (hlv:∀x,x∈L->0<=x.2.2.1/\x.2.2.1<=4):WOk n L↔∀k:Nat,k<5->ahT n L k:=by
 constructor
 ·intro h k hk;refine ⟨h.nc.sub (qh (by omega)),?_,fun x hx ht hl => ?_⟩
  ·by_cases h0:k=0
   ·subst h0;intro e he;have:cmp n L ((0:Nat):Int) e.1<=(labs n (aG L ((0:Nat):Int))).length:=List.count_le_length;rw [bV] at this;simpa using this
   ·exact h.sz k (by omega) (by omega)
  ·have:=h.un x hx ht;rw [hl] at this;exact this
 ·intro h;refine ⟨hg,hlv,(h 0 (by omega)).1,fun x hx ht => ?_,fun k k1 k2=>(h k (by omega)).2.1⟩;have hb:=hlv x hx;obtain ⟨j,hj⟩:∃j:Nat,x.2.2.1=(j:Int):=⟨x.2.2.1.toNat,by omega⟩
  rw [hj];exact (h j (by omega)).2.2 x hx ht hj
end
theorem Jt (n:Int) (L:List az) (hL:L.length<=1048576):∃b,uB (n,L)=some (b,())/\(b=true↔0<=n/\WOk n.toNat L):=by
 have hm:maxLen=9223372036854775807:=by decide
 show ∃b,QL BIG _=_/\_;have hG:iZ (n,L)=some ((n,gE L),()):=yu n L hL;rw [alG,hG,ae,tH _ _ (by unfold gE;rw [List.length_map];exact hL),ae];by_cases hg:fD n (gE L)=true;case neg=>
  rw [show fD n (gE L)=false by simpa using hg];simp only [dM,ah,ae];refine ⟨false,rfl,⟨(fun h=>by cases h),fun ⟨h1,h2⟩ => ?_⟩⟩;have:=h2.gr;rw [Int.toNat_of_nonneg h1] at this;exact absurd this hg
 obtain ⟨m,rfl⟩:∃m:Nat,n=(m:Int):=by
  have:1<=n:=by
   have h:=hg;unfold fD at h;rw [aP,aQ] at h;omega
  exact ⟨n.toNat,by omega⟩
 rw [hg,fH];obtain ⟨h1,h12⟩:=xh hg;obtain ⟨hgE,hgn,hL6⟩:=il hg;simp only [aZ,aj];rw [tL L (by omega) (fun x=>!aU x.2.2.1 0 4) false (fun self i y hy => ?_) (fun self=>by simp)]
 ·by_cases hA:L.any (fun x=>!aU x.2.2.1 0 4)=true
  ·rw [if_pos hA];refine ⟨false,rfl,⟨(fun h=>by cases h),fun ⟨_,h2⟩ => ?_⟩⟩;obtain ⟨x,hx,hp⟩:=List.any_eq_true.1 hA;rw [show aU x.2.2.1 0 4=true from aQ.2 (h2.lv x hx)] at hp;simp at hp
  ·rw [if_neg hA,ae];have hlv:∀x,x∈L->0<=x.2.2.1/\x.2.2.1<=4:=by
    intro x hx;have hp:¬(!aU x.2.2.1 0 4)=true:=fun h=>hA (List.any_eq_true.2 ⟨x,hx,h⟩)
    cases hb:aU x.2.2.1 0 4 with
    | true=>exact aQ.1 hb
    | false=>rw [hb] at hp;simp at hp
   simp only;refine bW (x:=((m:Int),(0:Int))) (P:=fun o=>∃b,o=some (b,())/\(b=true↔0<=(m:Int)/\WOk m L)) (fun (s:Int × Int)=>∃k:Nat,s.2=(k:Int)/\k<=5/\s.1=((m / 2 ^ k:Nat):Int)/\∀j:Nat,j<k->ahT m L j) (fun s=>5-s.2.toNat)
    (fun _ (b:Unit ⊕ Bool)=>(b = .inl ()/\∀k:Nat,k<5->ahT m L k)\/(b = .inr false/\¬∀k:Nat,k<5->ahT m L k)) (by simp [BIG]) ⟨0,rfl,by omega,by simp,fun j h=>by omega⟩ (fun self s hx hs => ?_) (fun b hb => ?_)
   ·obtain ⟨mo,kk⟩:=s;obtain ⟨k,k1,k2,k3,k4⟩:=hx;simp only at k1 k2 k3 k4 hs ⊢;subst k1 k3;by_cases hk:k<=4
    ·obtain ⟨hE,hEn,hEl⟩:=Cc hg (k:Int);obtain ⟨r,b,r1,r2,r3⟩:=vQ (n:=m) L (k:Int) h1 h12 hL hE;rw [ai (by omega),ah,r1,ae];cases b with
     | false=>
      simp only [dM,ah,ae];refine ⟨_,rfl,.inr ⟨rfl,fun h => ?_⟩⟩;have:=r2.2 (h k (by omega)).1;cases this
     | true=>
      obtain ⟨Fs,rfl,hF⟩:=r3 rfl;have htl:=yC Fs;have hsz:=hF.size;have hnc:=r2.1 rfl;simp only [aZ,aj];rw [tL Fs (by omega) (fun p=>decide (1<(p.1::p.2.vs).length)&&decide (m / 2 ^ k<(p.1::p.2.vs).length)) false (fun self2 i y hy => ?_) (fun self2=>by simp [htl])]
      ·by_cases hT:Fs.any (fun p=>decide (1<(p.1::p.2.vs).length)&&decide (m / 2 ^ k<(p.1::p.2.vs).length))=true
       ·rw [if_pos hT];refine ⟨_,rfl,.inr ⟨rfl,fun h => ?_⟩⟩;obtain ⟨p,hp,hq⟩:=List.any_eq_true.1 hT;rw [aP,decide_eq_true_eq,decide_eq_true_eq] at hq;have:=(akJ hg hF _).2 (h k (by omega)).2.1 p hp hq.1;omega
       ·rw [if_neg hT,ae];have hszk:=(akJ hg hF (m / 2 ^ k)).1 fun p hp hq=>by
         apply Classical.byContradiction;intro hlt;exact hT (List.any_eq_true.2 ⟨p,hp,by rw [aP,decide_eq_true_eq,decide_eq_true_eq];omega⟩)
        simp only;rw [tL L (by omega) (fun x=>!x.2.2.2&&(decide (x.2.2.1=(k:Int)) && !decide (aY m L k x.1=aY m L k x.2.1))) false (fun self3 i y hy => ?_) (fun self3=>by simp)]
        ·by_cases hU:L.any (fun x=>!x.2.2.2&&(decide (x.2.2.1=(k:Int)) && !decide (aY m L k x.1=aY m L k x.2.1)))=true
         ·rw [if_pos hU];refine ⟨_,rfl,.inr ⟨rfl,fun h => ?_⟩⟩;obtain ⟨x,hx,hq⟩:=List.any_eq_true.1 hU;simp only [aP,Bool.not_eq_true',decide_eq_true_eq,decide_eq_false_iff_not] at hq;exact hq.2.2 ((h k (by omega)).2.2 x hx hq.1 hq.2.1)
         ·rw [if_neg hU,ae];simp only;rw [au (by omega),aj,ae];have hdiv:IntKind.wrap .i64 (Int.tdiv ((m / 2 ^ k:Nat):Int) 2)=((m / 2 ^ (k+1):Nat):Int):=by
           have h0:m / 2 ^ k<=m:=Nat.div_le_self ..;have h2:Int.tdiv ((m / 2 ^ k:Nat):Int) 2=((m / 2 ^ (k+1):Nat):Int):=by
            rw [Nat.pow_succ,<-Nat.div_div_eq_div_mul];rfl
           have h3:m / 2 ^ (k+1)<=m:=Nat.div_le_self ..;have h4:(0:Int)<=((m / 2 ^ (k+1):Nat):Int):=Int.natCast_nonneg _;rw [h2,wr (by omega) (by omega)]
          simp only;rw [hdiv,bE (by omega)];refine hs _ ⟨k+1,rfl,by omega,rfl,fun j hj => ?_⟩ (by simp;omega);by_cases hjk:j=k
          ·subst hjk;refine ⟨hnc,hszk,fun x hx ht hl => ?_⟩;apply Classical.byContradiction;intro hne;refine hU (List.any_eq_true.2 ⟨x,hx,?_⟩);rw [ht,ai hl,au hne];rfl
          ·exact k4 j (by omega)
        ·have hi:=(aS hy).1;have hye:=dF (hgE (y.1,y.2.1) (List.mem_map.2 ⟨y,List.mem_of_getElem? hy,rfl⟩));simp only at hye;obtain ⟨ja,pa,a1,a2,a3⟩:=mZ hE hF h12 h1 y.1 hye.1 hye.2.1;obtain ⟨jb,pb,b1,b2,b3⟩:=mZ hE hF h12 h1 y.2.1 hye.2.2.1 hye.2.2.2.1;have hiff:((ja:Int)=(jb:Int))↔aY m L k y.1=aY m L k y.2.1:=by
          rw [iL hg (k:Int) ⟨hye.1,hye.2.1⟩ ⟨hye.2.2.1,hye.2.2.2.1⟩];constructor
          ·intro h;have:ja=jb:=by omega
           subst this;rw [a1,aK] at b1;subst b1;have hG:=hF.gt pa (List.mem_of_getElem? a1);exact ((hG.con hE _).1 a2).symm.trans ((hG.con hE _).1 b2)
          ·intro h;have:=hF.idx hE a1 b1 a2 b2 h;omega
         simp only [show ((i:Int)<(L.length:Int)) from by omega,decide_true,ah];rw [aB hi,hy,ae,bE (by omega)];cases ht:y.2.2.2 with
         | true=>rfl
         | false=>
          simp only [dM,ah,Bool.true_and];by_cases hl:y.2.2.1=(k:Int)
          ·rw [ai hl,ah,a3,ae,b3,ae,ae];by_cases hq:aY m L k y.1=aY m L k y.2.1
           ·rw [ai hq,ai (hiff.2 hq)];rfl
           ·rw [au hq,au (fun h=>hq (hiff.1 h))];rfl
          ·rw [au hl,aj];rfl
      ·have hi:=(aS hy).1;obtain ⟨V,v1,_,_,v4,_,v6⟩:=hF.verts h12 (List.mem_of_getElem? hy);rw [ai (by omega),ah,aB (by omega),qK hy,ae,v1,ae,bE (by omega)];simp only;rw [<-v4];by_cases c1:1<V.length
       ·rw [ai (show ((1:Int)<(V.length:Int)) by omega),ai c1,ah,ae,Bool.true_and];by_cases c2:m / 2 ^ k<V.length
        ·rw [ai (by omega),ai c2];rfl
        ·rw [au (by omega),au c2];rfl
       ·rw [au (show ¬((1:Int)<(V.length:Int)) by omega),au c1];rfl
    ·rw [au (by omega),aj];exact ⟨_,rfl,.inl ⟨rfl,fun j hj=>k4 j (by omega)⟩⟩
   ·rcases hb with ⟨rfl,h⟩|⟨rfl,h⟩
    ·exact ⟨true,rfl,⟨fun _=>⟨by omega,(afs hg hlv).2 h⟩,fun _=>rfl⟩⟩
    ·exact ⟨false,rfl,⟨(fun h=>by cases h),fun ⟨_,h2⟩=>absurd ((afs hg hlv).1 h2) h⟩⟩
 ·have hi:=(aS hy).1;simp only [show ((i:Int)<(L.length:Int)) from by omega,decide_true,ah];rw [aB hi,hy,ae,bI,ae,bE (by omega)];cases aU y.2.2.1 0 4<;>rfl
theorem Nr (n:Nat) (L:List az) (hL:L.length<=1048576):∃V,mQ ((n:Int),L)=some (V,())/\(WOk n L->V=labs n (aG L 0))/\(¬WOk n L->V=[]):=by
 have hm:maxLen=9223372036854775807:=by decide
 obtain ⟨b,b1,b2⟩:=Jt n L hL;rw [fH] at b2;show ∃V,zu BIG _=_/\_;rw [aaU,b1,ae];cases b with
 | false=>exact ⟨[],rfl,fun h=>(by have:=b2.2 ⟨by omega,h⟩;cases this),fun _=>rfl⟩
 | true=>
  have h:=(b2.1 rfl).2;have hg:=h.gr;obtain ⟨h1,h12⟩:=xh hg;obtain ⟨hE,hEn,hEl⟩:=Cc hg 0;obtain ⟨r,b',r1,r2,r3⟩:=vQ (n:=n) L 0 h1 h12 hL hE;obtain ⟨Fs,rfl,hF⟩:=r3 (r2.2 h.nc);have hll:=bV n (aG L 0);have hlab:=iK (gF hg 0);refine ⟨labs n (aG L 0),?_,fun _=>rfl,fun hn=>absurd h hn⟩;simp only [aZ,aj];rw [r1,ae];simp only;refine bW (x:=([],(0:Int))) (P:=fun o=>o=some (labs n (aG L 0),())) (fun (s:List Int × Int)=>∃i:Nat,s.2=i/\i<=n/\s.1=(labs n (aG L 0)).take i) (fun s=>n-s.2.toNat)
   (fun _ (V:List Int)=>V=labs n (aG L 0)) (by simp [BIG];omega) ⟨0,rfl,by omega,by simp⟩ (fun self s hx hs => ?_) (fun V hV=>by rw [hV])
  obtain ⟨s,j⟩:=s;obtain ⟨i,k1,k2,k3⟩:=hx;simp only at k1 k2 k3 hs ⊢;subst k1 k3;by_cases hi:i<n
  ·obtain ⟨j,p,p1,p2,p3⟩:=mZ hE hF h12 h1 (i:Int) (by omega) (by omega);have hjl:=(aS p1).1;have hpm:=List.mem_of_getElem? p1;have hG:=hF.gt p hpm;obtain ⟨V,v1,_,_,v4,v5,v6⟩:=hF.verts h12 hpm;have htl:=yC Fs;rw [ai (by omega),ah,p3,ae,aB (by omega),qK p1,ae,v1,ae];have hV0:0<V.length:=by rw [v4];simp
   rw [bn (by omega) (by simp only;omega),show Int.toNat 0=0 from rfl];simp only;rw [v5,ae,ai (by simp only [List.length_take,bA,List.length_nil];omega),ah,bE (by omega)];have hgi:=aO (show i<(labs n (aG L 0)).length by omega);have hmin:=hlab.2 i _ hgi;have hc:Con (aG L 0) i p.1:=((hG.con hE _).1 p2).symm;have e1:(labs n (aG L 0))[i]=p.1:=by
    have l1:=hmin.2.2 p.1 (hG.rg _ (List.mem_cons_self ..)).1 hc;have l2:=hF.mn p hpm _ ((hG.con hE _).2 (hc.symm.trans hmin.1));omega
   refine hs _ ⟨i+1,rfl,by omega,?_⟩ (by simp;omega);simp only;rw [List.take_succ_eq_append_getElem (by omega),e1]
  ·rw [au (by omega),aj];have:i=n:=by omega
   subst this;exact ⟨_,rfl,by rw [List.take_of_length_le (by omega)]⟩
theorem akK (x0 x1:Int) (x2:List az) (y:An) (h2:x2.length<=1048576) (h5:y.2.2.1.length<=1048576) (h6:y.2.2.2.length<=1048576) :
  ∃b,yg (x0,x1,x2,y)=some (b,())/\xS (x0,x1,x2,y)=some (b,())/\(b=true↔(1<=x0/\x0<=3)/\0<=x1/\WOk x1.toNat x2/\(UM y=true\/lq x1 y=true/\y.2.2.2=labs x1.toNat (aG x2 0))):=by
 have hm:maxLen=9223372036854775807:=by decide
 show ∃b,IM BIG _=_/\GN BIG _=_/\_;rw [ahr,agK,gY,bI,ae,ae];by_cases h0:aU x0 1 3=true;case neg=>
  rw [show aU x0 1 3=false by simpa using h0];exact ⟨false,rfl,rfl,⟨(fun h=>by cases h),fun h=>absurd (aQ.2 h.1) h0⟩⟩
 rw [h0];obtain ⟨b,b1,b2⟩:=Jq x1 x2 h2;obtain ⟨b',b1',b2'⟩:=Jt x1 x2 h2;have hbb:b'=b:=by
  cases b<;>cases b'<;>simp_all
 subst hbb;simp only [aZ,aj,b1,b1',ae];cases b' with
 | false=>
  refine ⟨false,rfl,rfl,⟨(fun h=>by cases h),fun h => ?_⟩⟩;have:=b2.2 ⟨h.2.1,h.2.2.1⟩;cases this
 | true=>
  obtain ⟨n0,hw⟩:=b2.1 rfl;simp only [aZ,aj];rw [adG,adH _ (by omega) (by omega),ae,ae];cases hb:UM y with
  | true=>exact ⟨true,rfl,rfl,⟨fun _=>⟨aQ.1 h0,n0,hw,.inl rfl⟩,fun _=>rfl⟩⟩
  | false=>
   simp only [aj];rw [PV _ _ h5 h6,PW _ _ h5 h6,ae,ae];cases ha:lq x1 y with
   | false=>exact ⟨false,rfl,rfl,⟨(fun h=>by cases h),fun h=>by
     rcases h.2.2.2 with h|⟨h,_⟩<;>cases h⟩⟩
   | true=>
    obtain ⟨m,rfl⟩:∃m:Nat,x1=(m:Int):=⟨x1.toNat,by omega⟩
    rw [fH] at hw ⊢;obtain ⟨V,v1,v2,_⟩:=Nq m x2 h2;obtain ⟨V',v1',v2',_⟩:=Nr m x2 h2;rw [v2 hw] at v1;rw [v2' hw] at v1';simp only [ah];rw [v1,v1',ae,ae,adI _ _ (by omega),uX _ _ (by omega),ae,ae];refine ⟨_,rfl,rfl,?_⟩;rw [decide_eq_true_eq];exact ⟨fun h=>⟨aQ.1 h0,n0,hw,.inr ⟨by trivial,h⟩⟩,fun h=>by
     rcases h.2.2.2 with h|⟨_,h⟩
     ·cases h
     ·exact h⟩
def nP (L:List az) (p:az->Nat) (rz hz:az->az):List az × Option (Nat × az):=
 if h:L.findIdx (fun y=>decide (p y=2))<L.length then
  ((L.take (L.findIdx fun y=>decide (p y=2))).map (fun y=>if p y=1 then rz y else y)++hz L[L.findIdx fun y=>decide (p y=2)]::L.drop (L.findIdx (fun y=>decide (p y=2))+1),some (L.findIdx (fun y=>decide (p y=2)),hz L[L.findIdx fun y=>decide (p y=2)]))
 else (L.map fun y=>if p y=1 then rz y else y,none)
theorem set_mid {α:Type} (a:List α) (x y:α) (b:List α):(a++x::b).set a.length y=a++y::b:=by
 rw [List.set_append_right _ _ (Nat.le_refl _),Nat.sub_self];rfl
theorem WB {A B:Type} {o:Option A} {v:A} (h:o=some v) (f:A->Option B):Option.bind o f=f v:=by rw [h];rfl
theorem UX {X B:Type} (L:List az) (hl:L.length<=1048576) (p:az->Nat) (rz hz:az->az) (mk:List az->Nat->X) (ix:X->Nat) (hix:∀l i,ix (mk l i)=i) (fin:List az->B) (hit:List az->Nat->az->B) {F:(X->Option B)->X->Option B}
  (hF:∀self (out:List az) (i:Nat) y,out.length=L.length->L[i]?=some y->out[i]?=some y->F self (mk out i)=if p y=2 then some (hit (out.set i (hz y)) i (hz y)) else self (mk (out.set i (if p y=1 then rz y else y)) (i+1)))
  (hE:∀self (out:List az),out.length=L.length->F self (mk out L.length)=some (fin out)) :
  aI BIG F (mk L 0)=some (match (nP L p rz hz).2 with|none=>fin (nP L p rz hz).1|some (j,y)=>hit (nP L p rz hz).1 j y):=by
 refine ig (fun x=>∃i:Nat,i<=L.length/\x=mk ((L.take i).map (fun y=>if p y=1 then rz y else y)++L.drop i) i/\∀j y,j<i->L[j]?=some y->p y≠2) (fun x=>L.length-ix x) (fun _=>_) (fun self x ⟨i,h1,h2,h3⟩ hs => ?_) (n:=BIG) (x:=mk L 0) (by rw [hix];simp [BIG];omega) ⟨0,by omega,by simp,fun j y h=>by omega⟩;subst h2;have hlen:((L.take i).map (fun y=>if p y=1 then rz y else y)++L.drop i).length=L.length:=by
  simp only [bZ,List.length_map,List.length_take,List.length_drop];omega
 have htl:((L.take i).map (fun y=>if p y=1 then rz y else y)).length=i:=by
  simp only [List.length_map,List.length_take];omega
 by_cases hi:i<L.length
 ·have hy:=aO hi;have hd:L.drop i=L[i]::L.drop (i+1):=List.drop_eq_getElem_cons hi;have ho:((L.take i).map (fun y=>if p y=1 then rz y else y)++L.drop i)[i]?=some L[i]:=by
   rw [List.getElem?_append_right (by omega),htl,Nat.sub_self,hd];rfl
  have hset:∀z,((L.take i).map (fun y=>if p y=1 then rz y else y)++L.drop i).set i z=(L.take i).map (fun y=>if p y=1 then rz y else y)++z::L.drop (i+1):=by
   intro z;have:=set_mid ((L.take i).map (fun y=>if p y=1 then rz y else y)) L[i] z (L.drop (i+1));rw [htl] at this;rw [hd];exact this
  rw [hF self _ i L[i] hlen hy ho];by_cases hp:p L[i]=2
  ·rw [if_pos hp,hset];have hfi:L.findIdx (fun y=>decide (p y=2))=i:=by
    rw [List.findIdx_eq hi];refine ⟨by simpa using hp,fun j hj => ?_⟩;have:=h3 j L[j] hj (aO (by omega));simpa using this
   unfold nP;rw [dif_pos (by rw [hfi];exact hi)];simp only [hfi]
  ·rw [if_neg hp];refine hs _ ⟨i+1,hi,?_,fun j y hj hjy => ?_⟩ (by rw [hix,hix];omega)
   ·rw [hset,List.take_succ_eq_append_getElem hi,List.map_append,List.append_assoc];rfl
   ·by_cases hji:j=i
    ·subst hji;rw [hy] at hjy;cases hjy;exact hp
    ·exact h3 j y (by omega) hjy
 ·have hin:i=L.length:=by omega
  subst hin;rw [hE self _ hlen];have hno:¬L.findIdx (fun y=>decide (p y=2))<L.length:=by
   intro hlt;have h1:=List.findIdx_getElem (w:=hlt);have:=h3 _ _ hlt (aO hlt);exact this (by simpa using h1)
  unfold nP;rw [dif_neg hno];simp
def Ns (k:Int):Int:=if 4<k+1 then 4 else k+1
def iD (k:Int) (x:az):az:=(x.1,x.2.1,Ns k,x.2.2.2)
def Ce (x:az):az:=(x.1,x.2.1,x.2.2.1,true)
def iW (s:Int->Bool) (k:Int) (x:az):Nat:=if x.2.2.2=true/\x.2.2.1=k/\s x.1=true then 1 else 0
def dP (s:Int->Bool) (k:Int) (x:az):Nat:=if x.2.2.2=true\/x.2.2.1≠k\/(s x.1=false/\s x.2.1=false) then 0 else if s x.1=true/\s x.2.1=true then 1 else 2
def sch (n:Nat) (L:List az) (e:Ed) (k:Int):List az × Option (Nat × az):=
 let c:=if cmp n L k e.2<cmp n L k e.1 then aY n L k e.2 else aY n L k e.1
 nP ((nP L (iW (fun x=>decide (aY n L k x=c)) k) (iD k) Ce).1) (dP (fun x=>decide (aY n L k x=c)) k) (iD k) Ce
theorem Fz {L:List az} {p:az->Nat} {rz hz:az->az} (h:∀y,p y≠2):nP L p rz hz=(L.map fun y=>if p y=1 then rz y else y,none):=by
 unfold nP;rw [dif_neg];intro hlt;have h1:=List.findIdx_getElem (w:=hlt);exact h _ (by simpa using h1)
theorem aft (L:List az) (p:az->Nat) (rz hz:az->az):(nP L p rz hz).1.length=L.length:=by
 unfold nP;split
 ·rename_i h;simp only [bZ,List.length_map,List.length_take,bA,List.length_drop];omega
 ·simp
theorem Cf (s:Int->Bool) (k:Int):∀y,iW s k y≠2:=fun y=>by unfold iW;split<;>omega
theorem akL {L:List az} {p:az->Nat} {rz hz:az->az} (h1:∀y,((rz y).1,(rz y).2.1)=(y.1,y.2.1)) (h2:∀y,((hz y).1,(hz y).2.1)=(y.1,y.2.1)):gE (nP L p rz hz).1=gE L:=by
 unfold nP gE;split
 ·rename_i h;have:L=L.take (L.findIdx fun y=>decide (p y=2))++L[L.findIdx fun y=>decide (p y=2)]::L.drop (L.findIdx (fun y=>decide (p y=2))+1):=by
   conv=>lhs;rw [<-List.take_append_drop (L.findIdx fun y=>decide (p y=2)) L,List.drop_eq_getElem_cons h]
  conv=>rhs;rw [this]
  simp only [List.map_append,List.map_cons,List.map_map,h2];congr 1;apply List.map_congr_left;intro y _;simp only [Function.comp];split
  ·exact h1 y
  ·rfl
 ·rw [List.map_map];apply List.map_congr_left;intro y _;simp only [Function.comp];split
  ·exact h1 y
  ·rfl
theorem afu {L:List az} {p:az->Nat} {rz hz:az->az} (h1:∀y,((rz y).1,(rz y).2.1)=(y.1,y.2.1)) (h3:∀y,(rz y).2.2.2=y.2.2.2) (hn:(nP L p rz hz).2=none):lH (nP L p rz hz).1=lH L:=by
 unfold nP at hn ⊢;split at hn
 ·cases hn
 ·rename_i h;rw [dif_neg h];unfold lH;simp only [List.filter_map,List.map_map];have hc:((fun x:az=>x.2.2.2) ∘ fun y=>if p y=1 then rz y else y)=fun x:az=>x.2.2.2:=by
   funext y;simp only [Function.comp];split
   ·exact h3 y
   ·rfl
  rw [hc];apply List.map_congr_left;intro y _;simp only [Function.comp];split
  ·exact h1 y
  ·rfl
theorem wrk {k:Int} (h0:0<=k) (h4:k<=4):IntKind.wrap .i64 (k+1)=k+1:=wr (by omega) (by omega)
section
variable {n:Nat} {L:List az} (hg:fD n (gE L)=true) {e:Ed} (ha:0<=e.1/\e.1<n) (hb:0<=e.2/\e.2<n) {k:Int} (k0:0<=k) (k4:k<=4)
include hg ha hb k0 k4
theorem Y8 {x:az} (hx:x∈L):(0<=x.1/\x.1<n)/\(0<=x.2.1/\x.2.1<n):=by
 have:=dF ((il hg).1 (x.1,x.2.1) (List.mem_map.2 ⟨x,hx,rfl⟩));simp only at this;omega
theorem ap7:lN (((n:Int),L),e,k)=some ((match (sch n L e k).2 with|none=>(((0:Int),(0:Int),false),((n:Int),(sch n L e k).1))|some (_,y)=>((y.1,y.2.1,true),((n:Int),(sch n L e k).1)))):=by
 have hm:maxLen=9223372036854775807:=by decide
 obtain ⟨h1,h12⟩:=xh hg;obtain ⟨hgE,hgn,hL6⟩:=il hg;have hll:=bV n (aG L k);show Es BIG _=_;rw [adx,oJ L k h12 (by omega) (gF hg k),ae];simp only;have gA:∀{B:Type} {q:Nat->Option B} {v:Int},0<=v/\v<n->bnd (labs n (aG L k)).length v q=q v.toNat:=fun h=>bn h.1 (by omega)
 have gV:∀{v:Int},0<=v/\v<n->(labs n (aG L k))[v.toNat]?=some (aY n L k v):=fun h=>getD_at (by omega)
 rw [gA ha,gV ha,ae,gA hb,gV hb,ae,RV _ _ (by omega),ae,gA ha,gV ha,ae,RV _ _ (by omega),ae];have hsel:(bif decide (((labs n (aG L k)).count (aY n L k e.2):Int)<((labs n (aG L k)).count (aY n L k e.1):Int)) then bnd (labs n (aG L k)).length e.2 fun n9=>Option.bind (labs n (aG L k))[n9]? fun y10=>some y10 else some (aY n L k e.1))=some (if cmp n L k e.2<cmp n L k e.1 then aY n L k e.2 else aY n L k e.1):=by
  show (bif decide ((cmp n L k e.2:Int)<(cmp n L k e.1:Int)) then _ else _)=_;by_cases hc:cmp n L k e.2<cmp n L k e.1
  ·rw [ai (by omega),ah,gA hb,gV hb,if_pos hc];rfl
  ·rw [au (by omega),aj,if_neg hc]
 rw [hsel,ae];unfold sch;simp only;generalize (if cmp n L k e.2<cmp n L k e.1 then aY n L k e.2 else aY n L k e.1)=c;rw [wrk k0 k4];have hup:(if (4:Int)<k+1 then (4:Int) else k+1)=Ns k:=rfl;simp only [hup];have e1:=UX L (by omega) (iW (fun x=>decide (aY n L k x=c)) k) (iD k) Ce (fun (l:List az) (i:Nat)=>((((n:Int),l),(i:Int)):(Int × List az) × Int)) (fun x=>x.2.toNat) (fun _ _=>by simp) (fun l=>((n:Int),l)) (fun l _ _=>((n:Int),l)) (F:=fun self13 x12=>
  bif decide (x12.2<(L.length:Int)) then
   Option.bind (bnd x12.1.2.length x12.2 fun n14=>
    Option.bind (Option.bind x12.1.2[n14]? fun y15=>
     bif y15.2.2.2 then
      Option.bind x12.1.2[n14]? fun y16=>
      bif decide (y16.2.2.1=k) then
       Option.bind x12.1.2[n14]? fun y17=>
       bnd (labs n (aG L k)).length y17.1 fun n18=>
       Option.bind (labs n (aG L k))[n18]? fun y19=>
       some (decide (y19=c))
      else some false
     else some false:Option (Bool)) fun x20=>
    bif x20 then
     Option.bind x12.1.2[n14]? fun y21=>
     some (x12.1.1,x12.1.2.set n14 (y21.1,y21.2.1,Ns k,y21.2.2.2))
    else some x12.1:Option ((Int × List (Int × Int × Int × Bool)))) fun x22=>
   self13 (x22,IntKind.wrap .i64 (x12.2+(1:Int)))
  else some x12.1) (fun self out i y ho hy hoy => ?_) (fun self out ho=>by simp)
 ·rw [Fz (Cf _ _)] at e1;simp only at e1;refine (WB e1 _).trans ?_;rw [Fz (Cf _ _)];simp only;have hmr:∀y,y∈L.map (fun y=>if iW (fun x=>decide (aY n L k x=c)) k y=1 then iD k y else y)->(0<=y.1/\y.1<n)/\(0<=y.2.1/\y.2.1<n):=by
   intro y hy;obtain ⟨z,hz,rfl⟩:=List.mem_map.1 hy;have:=Y8 hg ha hb k0 k4 hz;split
   ·exact this
   ·exact this
  have hl1:(L.map (fun y=>if iW (fun x=>decide (aY n L k x=c)) k y=1 then iD k y else y)).length<=1048576:=by rw [List.length_map];omega
  generalize L.map (fun y=>if iW (fun x=>decide (aY n L k x=c)) k y=1 then iD k y else y)=M at hmr hl1;have e2:=UX M hl1 (dP (fun x=>decide (aY n L k x=c)) k) (iD k) Ce (fun (l:List az) (i:Nat)=>((((n:Int),l),((0:Int),(0:Int)),(i:Int)):(Int × List az) × (Int × Int) × Int)) (fun x=>x.2.2.toNat) (fun _ _=>by simp) (fun l=>Sum.inl (((n:Int),l),((0:Int),(0:Int)))) (fun l _ y=>Sum.inr ((y.1,y.2.1),true,((n:Int),l))) (F:=fun self25 x24=>
  bif decide (x24.2.2<(M.length:Int)) then
   Option.bind (bnd x24.1.2.length x24.2.2 fun n26=>
    Option.bind (Option.bind x24.1.2[n26]? fun y27=>
     bif y27.2.2.2 then
      some true
     else Option.bind x24.1.2[n26]? fun y28=>
     bif !decide (y28.2.2.1=k) then
      some true
     else Option.bind x24.1.2[n26]? fun y29=>
     bnd (labs n (aG L k)).length y29.1 fun n30=>
     Option.bind (labs n (aG L k))[n30]? fun y31=>
     bif !decide (y31=c) then
      Option.bind x24.1.2[n26]? fun y32=>
      bnd (labs n (aG L k)).length y32.2.1 fun n33=>
      Option.bind (labs n (aG L k))[n33]? fun y34=>
      some (!decide (y34=c))
     else some false:Option (Bool)) fun x35=>
    bif x35 then
     some (Sum.inl (x24.1,x24.2.1))
    else Option.bind x24.1.2[n26]? fun y36=>
    bnd (labs n (aG L k)).length y36.1 fun n37=>
    Option.bind (labs n (aG L k))[n37]? fun y38=>
    Option.bind x24.1.2[n26]? fun y39=>
    bnd (labs n (aG L k)).length y39.2.1 fun n40=>
    Option.bind (labs n (aG L k))[n40]? fun y41=>
    bif !decide (y38=y41) then
     Option.bind x24.1.2[n26]? fun y42=>
     Option.bind (x24.1.2.set n26 (y42.1,y42.2.1,y42.2.2.1,true))[n26]? fun y43=>
     Option.bind (x24.1.2.set n26 (y42.1,y42.2.1,y42.2.2.1,true))[n26]? fun y44=>
     some (Sum.inr ((y43.1,y44.2.1),true,(x24.1.1,x24.1.2.set n26 (y42.1,y42.2.1,y42.2.2.1,true))))
    else Option.bind x24.1.2[n26]? fun y45=>
    some (Sum.inl ((x24.1.1,x24.1.2.set n26 (y45.1,y45.2.1,Ns k,y45.2.2.2)),x24.2.1)):Option (((Int × List (Int × Int × Int × Bool)) × (Int × Int)) ⊕ ((Int × Int) × Bool × (Int × List (Int × Int × Int × Bool))))) fun y=>match y with
   | .inl x46=>
    self25 (x46.1,x46.2,IntKind.wrap .i64 (x24.2.2+(1:Int)))
   | .inr x46=>
    some (Sum.inr (x46.1,x46.2.1,x46.2.2))
  else some (Sum.inl (x24.1,x24.2.1))) (fun self out i y ho hy hoy => ?_) (fun self out ho=>by simp)
  ·refine (WB e2 _).trans ?_;cases (nP M (dP (fun x=>decide (aY n L k x=c)) k) (iD k) Ce).2 with
   | none=>rfl
   | some r=>rfl
  ·have hi:=(aS hy).1;obtain ⟨r1,r2⟩:=hmr y (List.mem_of_getElem? hy);have hso:∀z,(out.set i z)[i]?=some z:=fun z=>List.getElem?_set_self (by omega)
   simp only [show ((i:Int)<(M.length:Int)) from by omega,decide_true,ah];rw [aB (by omega),bE (by omega)];simp only [hoy,ae,gA r1,gV r1,gA r2,gV r2,hso];cases ht:y.2.2.2 with
   | true=>
    have hp:dP (fun x=>decide (aY n L k x=c)) k y=0:=by unfold dP;rw [if_pos (.inl ht)]
    rw [hp,if_neg (by omega),if_neg (by omega),set_self hoy];rfl
   | false=>
    simp only [aj];by_cases hk:y.2.2.1=k
    ·simp only [ai hk,aZ,aj];by_cases hA:aY n L k y.1=c
     ·simp only [ai hA,aZ,aj,ae];by_cases hB:aY n L k y.2.1=c
      ·have hp:dP (fun x=>decide (aY n L k x=c)) k y=1:=by
        unfold dP;rw [if_neg (by simp [ht,hk,hA]),if_pos (by simp [hA,hB])]
       rw [hp,if_neg (by omega),if_pos rfl,hA,hB];simp only [decide_true,aZ,aj,ae];unfold iD;rw [ht]
      ·have hp:dP (fun x=>decide (aY n L k x=c)) k y=2:=by
        unfold dP;rw [if_neg (by simp [ht,hk,hA]),if_neg (by simp [hB])]
       rw [hp,if_pos rfl,hA];simp only [au (fun h=>hB (Eq.symm h):¬c=aY n L k y.2.1),dM,ah,ae];rfl
     ·simp only [au hA,dM,ah];by_cases hB:aY n L k y.2.1=c
      ·have hp:dP (fun x=>decide (aY n L k x=c)) k y=2:=by
        unfold dP;rw [if_neg (by simp [ht,hk,hB]),if_neg (by simp [hA])]
       rw [hp,if_pos rfl,hB];simp only [decide_true,aZ,aj,ae,au hA,dM,ah];rfl
      ·have hp:dP (fun x=>decide (aY n L k x=c)) k y=0:=by
        unfold dP;rw [if_pos (.inr (.inr ⟨au hA,au hB⟩))]
       rw [hp,if_neg (by omega),if_neg (by omega),set_self hoy];simp only [au hB,dM,ah,ae]
    ·have hp:dP (fun x=>decide (aY n L k x=c)) k y=0:=by unfold dP;rw [if_pos (.inr (.inl hk))]
     rw [hp,if_neg (by omega),if_neg (by omega),set_self hoy];simp only [au hk,dM,ah,ae]
 ·have hi:=(aS hy).1;obtain ⟨r1,r2⟩:=Y8 hg ha hb k0 k4 (List.mem_of_getElem? hy);simp only [show ((i:Int)<(L.length:Int)) from by omega,decide_true,ah];rw [aB (by omega),bE (by omega),if_neg (Cf _ _ _)];simp only [hoy,ae,gA r1,gV r1];cases ht:y.2.2.2 with
  | false=>
   have hp:iW (fun x=>decide (aY n L k x=c)) k y=0:=by unfold iW;rw [if_neg (by simp [ht])]
   rw [hp,if_neg (by omega),set_self hoy];rfl
  | true=>
   simp only [ah];by_cases hk:y.2.2.1=k
   ·simp only [ai hk,ah];by_cases hA:aY n L k y.1=c
    ·have hp:iW (fun x=>decide (aY n L k x=c)) k y=1:=by unfold iW;rw [if_pos ⟨ht,hk,ai hA⟩]
     rw [hp,if_pos rfl];simp only [ai hA,ah,ae];unfold iD;rw [ht]
    ·have hp:iW (fun x=>decide (aY n L k x=c)) k y=0:=by unfold iW;rw [if_neg (by simp [hA])]
     rw [hp,if_neg (by omega),set_self hoy];simp only [au hA,aj,ae]
   ·have hp:iW (fun x=>decide (aY n L k x=c)) k y=0:=by unfold iW;rw [if_neg (by simp [hk])]
    rw [hp,if_neg (by omega),set_self hoy];simp only [au hk,aj,ae]
end
section
variable {n:Nat} {L:List az} (hg:fD n (gE L)=true) {e:Ed} (ha:0<=e.1/\e.1<n) (hb:0<=e.2/\e.2<n) {k:Int} (k0:0<=k) (k4:k<=4)
include hg ha hb k0 k4
theorem amd (hN:NoCyc (aG L k)):mR (((n:Int),L),e,k)=some (((sch n L e k).1,match (sch n L e k).2 with|none=>(-1:Int)|some (j,_)=>(j:Int)),()):=by
 have hm:maxLen=9223372036854775807:=by decide
 obtain ⟨h1,h12⟩:=xh hg;obtain ⟨hgE,hgn,hL6⟩:=il hg;obtain ⟨hE,hEn,hEl⟩:=Cc hg k;obtain ⟨r,b,r1,r2,r3⟩:=vQ (n:=n) L k h1 h12 (by omega) hE;obtain ⟨Fs,rfl,hF⟩:=r3 (r2.2 hN);obtain ⟨ja,pa,a1,a2,a3⟩:=mZ hE hF h12 h1 e.1 ha.1 ha.2;obtain ⟨jb,pb,b1,b2,b3⟩:=mZ hE hF h12 h1 e.2 hb.1 hb.2;have htl:=yC Fs;have jal:=(aS a1).1;have jbl:=(aS b1).1;have hpa:=List.mem_of_getElem? a1;have hpb:=List.mem_of_getElem? b1;obtain ⟨Va,va1,_,va3,va4,_,va6⟩:=hF.verts h12 hpa;obtain ⟨Vb,vb1,_,vb3,vb4,_,vb6⟩:=hF.verts h12 hpb;have hGa:=hF.gt pa hpa;have hGb:=hF.gt pb hpb;have ra:=hGa.rg pa.1 (List.mem_cons_self ..);have rb:=hGb.rg pb.1 (List.mem_cons_self ..);have ca:=(hGa.con hE _).1 a2;have cb:=(hGb.con hE _).1 b2;have la:Va.length=cmp n L k e.1:=by rw [va4,Jr hg hF hpa,Js hg ra ha ca]
 have lb:Vb.length=cmp n L k e.2:=by rw [vb4,Jr hg hF hpb,Js hg rb hb cb]
 have ma:∀x:Int,0<=x/\x<n->(x∈Va↔aY n L k x=aY n L k e.1):=fun x hx=>by
  rw [va3,hGa.con hE,iL hg k hx ha];exact ⟨fun h=>h.symm.trans ca,fun h=>ca.trans h.symm⟩
 have mb:∀x:Int,0<=x/\x<n->(x∈Vb↔aY n L k x=aY n L k e.2):=fun x hx=>by
  rw [vb3,hGb.con hE,iL hg k hx hb];exact ⟨fun h=>h.symm.trans cb,fun h=>cb.trans h.symm⟩
 show zB BIG _=_;rw [aaW,ai (by simp only;omega),ah,r1,ae];simp only;rw [a3,ae,aB (by omega),qK a1,ae,va1,ae,b3,ae,aB (by omega),qK b1,ae,vb1,ae];simp only;have hsel:∃V,(bif decide ((Vb.length:Int)<(Va.length:Int)) then some Vb else some Va)=some V/\V.length<=12/\∀x:Int,0<=x/\x<n->(x∈V↔aY n L k x=(if cmp n L k e.2<cmp n L k e.1 then aY n L k e.2 else aY n L k e.1)):=by
  by_cases hc:cmp n L k e.2<cmp n L k e.1
  ·rw [ai (by omega),if_pos hc];exact ⟨Vb,rfl,vb6,mb⟩
  ·rw [au (by omega),if_neg hc];exact ⟨Va,rfl,va6,ma⟩
 obtain ⟨V,hV,hVl,hVm⟩:=hsel;rw [hV,ae,wrk k0 k4];have hup:(bif decide ((4:Int)<k+1) then some (4:Int) else some (k+1))=some (Ns k):=by
  unfold Ns;by_cases h:4<k+1
  ·rw [ai h,if_pos h];rfl
  ·rw [au h,if_neg h];rfl
 rw [hup,ae,List.nil_append];unfold sch;simp only;generalize (if cmp n L k e.2<cmp n L k e.1 then aY n L k e.2 else aY n L k e.1)=c at hVm ⊢;have hVd:∀x:Int,0<=x/\x<n->gP (V,x)=some (decide (aY n L k x=c),()):=fun x hx=>by
  rw [uZ V x (by omega)];by_cases h:aY n L k x=c
  ·rw [ai h,ai ((hVm x hx).2 h)]
  ·rw [au h,au (fun h'=>h ((hVm x hx).1 h'))]
 have e1:=UX L (by omega) (iW (fun x=>decide (aY n L k x=c)) k) (iD k) Ce (fun (l:List az) (i:Nat)=>((l,(i:Int)):List az × Int)) (fun x=>x.2.toNat) (fun _ _=>by simp) (fun l=>l) (fun l _ _=>l) (F:=fun self12 x11=>
   bif decide (x11.2<(x11.1.length:Int)) then
    Option.bind (Option.bind (bnd x11.1.length x11.2 fun n13=>
     Option.bind x11.1[n13]? fun y14=>
     bif y14.2.2.2 then
      bnd x11.1.length x11.2 fun n15=>
      Option.bind x11.1[n15]? fun y16=>
      bif decide (y16.2.2.1=k) then
       bnd x11.1.length x11.2 fun n17=>
       Option.bind x11.1[n17]? fun y18=>
       Option.bind (gP (V,y18.1)) fun r19=>
       some r19.1
      else some false
     else some false:Option (Bool)) fun x20=>
     bif x20 then
      bnd x11.1.length x11.2 fun n21=>
      Option.bind x11.1[n21]? fun y22=>
      some (x11.1.set n21 (y22.1,y22.2.1,Ns k,y22.2.2.2))
     else some x11.1:Option ((List (Int × Int × Int × Bool)))) fun x23=>
    self12 (x23,IntKind.wrap .i64 (x11.2+(1:Int)))
   else some x11.1) (fun self out i y ho hy hoy => ?_) (fun self out ho=>by simp [ho])
 ·rw [Fz (Cf _ _)] at e1;simp only at e1;have e1':(aI BIG _ ((L,(0:Int)):List az × Int))=_:=e1;rw [e1',ae,Fz (Cf _ _)];simp only;have hmr:∀y,y∈L.map (fun y=>if iW (fun x=>decide (aY n L k x=c)) k y=1 then iD k y else y)->(0<=y.1/\y.1<n)/\(0<=y.2.1/\y.2.1<n):=by
   intro y hy;obtain ⟨z,hz,rfl⟩:=List.mem_map.1 hy;have:=Y8 hg ha hb k0 k4 hz;split
   ·exact this
   ·exact this
  have hml:(L.map (fun y=>if iW (fun x=>decide (aY n L k x=c)) k y=1 then iD k y else y)).length=L.length:=by rw [List.length_map]
  have hor:∀(i:Nat) y,(L.map (fun y=>if iW (fun x=>decide (aY n L k x=c)) k y=1 then iD k y else y))[i]?=some y->∃y0,L[i]?=some y0/\y0.2.2.2=y.2.2.2/\(y.2.2.2=false->y0.2.2.1=y.2.2.1):=by
   intro i y hy;rw [List.getElem?_map,Option.map_eq_some_iff] at hy;obtain ⟨y0,h0,rfl⟩:=hy;refine ⟨y0,h0,?_,?_⟩
   ·split
    ·rfl
    ·rfl
   ·intro ht;split at ht
    ·rename_i hp;exfalso;unfold iW at hp;split at hp
     ·rename_i hp';rw [show (iD k y0).2.2.2=y0.2.2.2 from rfl,hp'.1] at ht;cases ht
     ·omega
    ·rename_i hp;rw [if_neg hp]
  generalize L.map (fun y=>if iW (fun x=>decide (aY n L k x=c)) k y=1 then iD k y else y)=M at hmr hml hor;have e2:=UX M (by omega) (dP (fun x=>decide (aY n L k x=c)) k) (iD k) Ce (fun (l:List az) (i:Nat)=>((l,(i:Int)):List az × Int)) (fun x=>x.2.toNat) (fun _ _=>by simp) (fun l=>Sum.inl l) (fun l j _=>Sum.inr (l,(j:Int))) (F:=fun self26 x25=>
   bif decide (x25.2<(x25.1.length:Int)) then
    Option.bind (bnd x25.1.length x25.2 fun n27=>
     Option.bind x25.1[n27]? fun y28=>
     Option.bind (gP (V,y28.1)) fun r29=>
     bnd x25.1.length x25.2 fun n30=>
     Option.bind x25.1[n30]? fun y31=>
     Option.bind (gP (V,y31.2.1)) fun r32=>
     Option.bind (bnd L.length x25.2 fun n33=>
      Option.bind L[n33]? fun y34=>
      bif y34.2.2.2 then
       some true
      else bnd L.length x25.2 fun n35=>
      Option.bind L[n35]? fun y36=>
      bif !decide (y36.2.2.1=k) then
       some true
      else bif !r29.1 then
       some !r32.1
      else some false:Option (Bool)) fun x37=>
     bif x37 then
      some (Sum.inl x25.1)
     else Option.bind (bif r29.1 then
      some r32.1
      else some false:Option (Bool)) fun x38=>
     bif x38 then
      bnd x25.1.length x25.2 fun n39=>
      Option.bind x25.1[n39]? fun y40=>
      some (Sum.inl (x25.1.set n39 (y40.1,y40.2.1,Ns k,y40.2.2.2)))
     else bnd x25.1.length x25.2 fun n41=>
     Option.bind x25.1[n41]? fun y42=>
     some (Sum.inr (x25.1.set n41 (y42.1,y42.2.1,y42.2.2.1,true),x25.2)):Option (((List (Int × Int × Int × Bool))) ⊕ ((List (Int × Int × Int × Bool)) × Int))) fun y=>match y with
    | .inl x43=>
     self26 (x43,IntKind.wrap .i64 (x25.2+(1:Int)))
    | .inr x43=>
     some (Sum.inr (x43.1,x43.2))
   else some (Sum.inl x25.1)) (fun self out i y ho hy hoy => ?_) (fun self out ho=>by simp [ho])
  ·refine (WB e2 _).trans ?_;cases (nP M (dP (fun x=>decide (aY n L k x=c)) k) (iD k) Ce).2 with
   | none=>rfl
   | some r=>rfl
  ·have hi:=(aS hy).1;obtain ⟨q1,q2⟩:=hmr y (List.mem_of_getElem? hy);obtain ⟨y0,o1,o2,o3⟩:=hor i y hy;have bo:∀{B:Type} {q:Nat->Option B},bnd out.length (i:Int) q=q i:=fun {B q}=>aB (by omega)
   have bL:∀{B:Type} {q:Nat->Option B},bnd L.length (i:Int) q=q i:=fun {B q}=>aB (by omega)
   simp only [show ((i:Int)<(out.length:Int)) from by omega,decide_true,ah,bo,bL,hoy,o1,ae,hVd y.1 q1,hVd y.2.1 q2,o2];rw [bE (by omega)];cases ht:y.2.2.2 with
   | true=>
    have hp:dP (fun x=>decide (aY n L k x=c)) k y=0:=by unfold dP;rw [if_pos (.inl ht)]
    rw [hp,if_neg (by omega),if_neg (by omega),set_self hoy];rfl
   | false=>
    rw [o3 ht];simp only [aj];by_cases hk:y.2.2.1=k
    ·simp only [ai hk,aZ,aj];by_cases hA:aY n L k y.1=c
     ·by_cases hB:aY n L k y.2.1=c
      ·have hp:dP (fun x=>decide (aY n L k x=c)) k y=1:=by
        unfold dP;rw [if_neg (by simp [ht,hk,hA]),if_pos (by simp [hA,hB])]
       rw [hp,if_neg (by omega),if_pos rfl];simp only [ai hA,ai hB,aZ,aj,ah,ae];unfold iD;rw [ht]
      ·have hp:dP (fun x=>decide (aY n L k x=c)) k y=2:=by
        unfold dP;rw [if_neg (by simp [ht,hk,hA]),if_neg (by simp [hB])]
       rw [hp,if_pos rfl];simp only [ai hA,au hB,aZ,aj,ah,ae];rfl
     ·by_cases hB:aY n L k y.2.1=c
      ·have hp:dP (fun x=>decide (aY n L k x=c)) k y=2:=by
        unfold dP;rw [if_neg (by simp [ht,hk,hB]),if_neg (by simp [hA])]
       rw [hp,if_pos rfl];simp only [au hA,ai hB,dM,aZ,aj,ah,ae];rfl
      ·have hp:dP (fun x=>decide (aY n L k x=c)) k y=0:=by
        unfold dP;rw [if_pos (.inr (.inr ⟨au hA,au hB⟩))]
       rw [hp,if_neg (by omega),if_neg (by omega),set_self hoy];simp only [au hA,au hB,dM,ah,ae]
    ·have hp:dP (fun x=>decide (aY n L k x=c)) k y=0:=by unfold dP;rw [if_pos (.inr (.inl hk))]
     rw [hp,if_neg (by omega),if_neg (by omega),set_self hoy];simp only [au hk,dM,ah,ae]
 ·have hi:=(aS hy).1;obtain ⟨q1,q2⟩:=Y8 hg ha hb k0 k4 (List.mem_of_getElem? hy);have bo:∀{B:Type} {q:Nat->Option B},bnd out.length (i:Int) q=q i:=fun {B q}=>aB (by omega)
  simp only [show ((i:Int)<(out.length:Int)) from by omega,decide_true,ah,bo,hoy,ae,hVd y.1 q1];rw [bE (by omega),if_neg (Cf _ _ _)];cases ht:y.2.2.2 with
  | false=>
   have hp:iW (fun x=>decide (aY n L k x=c)) k y=0:=by unfold iW;rw [if_neg (by simp [ht])]
   rw [hp,if_neg (by omega),set_self hoy];rfl
  | true=>
   simp only [ah];by_cases hk:y.2.2.1=k
   ·simp only [ai hk,ah];by_cases hA:aY n L k y.1=c
    ·have hp:iW (fun x=>decide (aY n L k x=c)) k y=1:=by unfold iW;rw [if_pos ⟨ht,hk,ai hA⟩]
     rw [hp,if_pos rfl];simp only [ai hA,ah,ae];unfold iD;rw [ht]
    ·have hp:iW (fun x=>decide (aY n L k x=c)) k y=0:=by unfold iW;rw [if_neg (by simp [hA])]
     rw [hp,if_neg (by omega),set_self hoy];simp only [au hA,aj,ae]
   ·have hp:iW (fun x=>decide (aY n L k x=c)) k y=0:=by unfold iW;rw [if_neg (by simp [hk])]
    rw [hp,if_neg (by omega),set_self hoy];simp only [au hk,aj,ae]
end
theorem akM (L:List az) (x:az) (hL:L.length<=1048576):La (L,x)=some (L.filter (fun y=>lsB (y.1,y.2.1) (x.1,x.2.1))++[x]++L.filter (fun y=>lsB (x.1,x.2.1) (y.1,y.2.1)),()):=by
 have hm:maxLen=9223372036854775807:=by decide
 have hfl:∀(p:az->Bool) (i:Nat),((L.take i).filter p).length<=i:=fun p i=>by
  have:=List.length_filter_le p (L.take i);rw [List.length_take] at this;omega
 have hfs:∀(p:az->Bool) (i:Nat) (hi:i<L.length),(L.take (i+1)).filter p=(L.take i).filter p++(if p L[i]=true then [L[i]] else []):=fun p i hi=>by
  rw [List.take_succ_eq_append_getElem hi,List.filter_append];congr 1;by_cases h:p L[i]=true<;>simp [h]
 show K_ BIG _=_;rw [ajz];refine bW (x:=([],(0:Int))) (P:=fun o=>o=some (L.filter (fun y=>lsB (y.1,y.2.1) (x.1,x.2.1))++[x]++L.filter (fun y=>lsB (x.1,x.2.1) (y.1,y.2.1)),())) (fun (s:List az × Int)=>∃i:Nat,s.2=(i:Int)/\i<=L.length/\s.1=(L.take i).filter (fun y=>lsB (y.1,y.2.1) (x.1,x.2.1))) (fun s=>L.length-s.2.toNat) (fun _ (b:List az)=>b=L.filter (fun y=>lsB (y.1,y.2.1) (x.1,x.2.1))) (by simp [BIG];omega) ⟨0,rfl,by omega,rfl⟩ (fun self s hx hs => ?_) (fun b hb => ?_)
 ·obtain ⟨out,jj⟩:=s;obtain ⟨i,h1,h2,h3⟩:=hx;simp only at h1 h2 h3 hs ⊢;subst h1 h3;by_cases hi:i<L.length
  ·have hfi:=hfl (fun y=>lsB (y.1,y.2.1) (x.1,x.2.1)) i;have bi:∀{B:Type} {q:Nat->Option B},bnd L.length (i:Int) q=q i:=fun {B q}=>aB hi
   simp only [show ((i:Int)<(L.length:Int)) from by omega,decide_true,ah,bi,aO hi,ae];have hc:(bif decide (L[i].1<x.1) then some true else bif decide (L[i].1=x.1) then some (decide (L[i].2.1<x.2.1)) else some false)=some (lsB (L[i].1,L[i].2.1) (x.1,x.2.1)):=by
    unfold lsB;simp only;cases decide (L[i].1<x.1)<;>cases decide (L[i].1=x.1)<;>rfl
   rw [hc,ae,bE (by omega)];have hs':=hs ((L.take (i+1)).filter (fun y=>lsB (y.1,y.2.1) (x.1,x.2.1)),((i+1:Nat):Int)) ⟨i+1,rfl,hi,rfl⟩ (by simp;omega);rw [hfs _ i hi] at hs';refine Eq.mpr ?_ hs';cases hp:lsB (L[i].1,L[i].2.1) (x.1,x.2.1) with
   | true=>
    simp only [ah,if_true];rw [ai (by simp only [bA,List.length_nil];omega),ah,ae]
   | false=>
    simp only [aj,Bool.false_eq_true,if_false,List.append_nil,ae]
  ·simp only [show ¬((i:Int)<(L.length:Int)) from by omega,decide_false,aj];have:i=L.length:=by omega
   subst this;exact ⟨_,rfl,by rw [List.take_length]⟩
 ·subst hb;have h0:=List.length_filter_le (fun y=>lsB (y.1,y.2.1) (x.1,x.2.1)) L;rw [ai (by simp only [bA,List.length_nil];omega),ah];refine bW (x:=(L.filter (fun y=>lsB (y.1,y.2.1) (x.1,x.2.1))++[x],(0:Int))) (P:=fun o=>o=some (L.filter (fun y=>lsB (y.1,y.2.1) (x.1,x.2.1))++[x]++L.filter (fun y=>lsB (x.1,x.2.1) (y.1,y.2.1)),())) (fun (s:List az × Int)=>∃i:Nat,s.2=(i:Int)/\i<=L.length/\s.1=L.filter (fun y=>lsB (y.1,y.2.1) (x.1,x.2.1))++[x]++(L.take i).filter (fun y=>lsB (x.1,x.2.1) (y.1,y.2.1))) (fun s=>L.length-s.2.toNat) (fun _ (b:List az)=>b=L.filter (fun y=>lsB (y.1,y.2.1) (x.1,x.2.1))++[x]++L.filter (fun y=>lsB (x.1,x.2.1) (y.1,y.2.1))) (by simp [BIG];omega) ⟨0,rfl,by omega,by simp⟩ (fun self s hx hs => ?_) (fun b hb=>by rw [hb]);obtain ⟨out,jj⟩:=s;obtain ⟨i,h1,h2,h3⟩:=hx;simp only at h1 h2 h3 hs ⊢;subst h1 h3;by_cases hi:i<L.length
  ·have hfi:=hfl (fun y=>lsB (x.1,x.2.1) (y.1,y.2.1)) i;have bi:∀{B:Type} {q:Nat->Option B},bnd L.length (i:Int) q=q i:=fun {B q}=>aB hi
   simp only [show ((i:Int)<(L.length:Int)) from by omega,decide_true,ah,bi,aO hi,ae];have hc:(bif decide (x.1<L[i].1) then some true else bif decide (L[i].1=x.1) then some (decide (x.2.1<L[i].2.1)) else some false)=some (lsB (x.1,x.2.1) (L[i].1,L[i].2.1)):=by
    unfold lsB;simp only;have:decide (L[i].1=x.1)=decide (x.1=L[i].1):=by
     by_cases h:L[i].1=x.1
     ·rw [ai h,ai h.symm]
     ·rw [au h,au (fun h'=>h h'.symm)]
    rw [this];cases decide (x.1<L[i].1)<;>cases decide (x.1=L[i].1)<;>rfl
   rw [hc,ae,bE (by omega)];have hs':=hs (L.filter (fun y=>lsB (y.1,y.2.1) (x.1,x.2.1))++[x]++(L.take (i+1)).filter (fun y=>lsB (x.1,x.2.1) (y.1,y.2.1)),((i+1:Nat):Int)) ⟨i+1,rfl,hi,rfl⟩ (by simp;omega);rw [hfs _ i hi,<-List.append_assoc] at hs';refine Eq.mpr ?_ hs';cases hp:lsB (x.1,x.2.1) (L[i].1,L[i].2.1) with
   | true=>
    simp only [ah,if_true];rw [ai (by simp only [bZ,bA,List.length_nil];omega),ah,ae]
   | false=>
    simp only [aj,Bool.false_eq_true,if_false,List.append_nil,ae]
  ·simp only [show ¬((i:Int)<(L.length:Int)) from by omega,decide_false,aj];have:i=L.length:=by omega
   subst this;exact ⟨_,rfl,by rw [List.take_length]⟩
theorem put_eq {L:List az} {e:Ed} (hs:oH (gE L)) (hne:e∉gE L) {k:Nat} (hk:k<=L.length) (h1:∀j (hj:j<L.length),j<k->lsB (L[j].1,L[j].2.1) e=true) (h2:∀hj:k<L.length,lsB (L[k].1,L[k].2.1) e=false) :
  L.filter (fun y=>lsB (y.1,y.2.1) e)=L.take k/\L.filter (fun y=>lsB e (y.1,y.2.1))=L.drop k:=by
 have hasym:∀a b:Ed,lsB a b=true->lsB b a=false:=by
  intro a b h;cases hb:lsB b a with
  | false=>rfl
  | true=>
   exfalso;simp only [lsB,Bool.or_eq_true,aP,decide_eq_true_eq] at h hb;omega
 have hT:∀y,y∈L.take k->lsB (y.1,y.2.1) e=true:=by
  intro y hy;obtain ⟨j,hj,rfl⟩:=List.mem_iff_getElem.1 hy;rw [List.length_take] at hj;rw [List.getElem_take];exact h1 j (by omega) (by omega)
 have hgl:(gE L).length=L.length:=by unfold gE;rw [List.length_map]
 have hge:∀j (hj:j<L.length),(gE L)[j]'(by omega)=(L[j].1,L[j].2.1):=fun j hj=>by unfold gE;rw [List.getElem_map]
 have hD:∀y,y∈L.drop k->lsB e (y.1,y.2.1)=true:=by
  intro y hy;obtain ⟨j,hj,rfl⟩:=List.mem_iff_getElem.1 hy;rw [List.length_drop] at hj;rw [List.getElem_drop];have hkl:k<L.length:=by omega
  have hk2:lsB e (L[k].1,L[k].2.1)=true:=by
   cases hb:lsB e (L[k].1,L[k].2.1) with
   | true=>rfl
   | false=>
    have:=Oc (h2 hkl) hb;exact absurd (List.mem_map.2 ⟨L[k],List.getElem_mem hkl,this⟩) hne
  by_cases hj0:j=0
  ·subst hj0;exact hk2
  ·have:=List.pairwise_iff_getElem.1 hs k (k+j) (by omega) (by omega) (by omega);rw [hge k hkl,hge (k+j) (by omega)] at this;exact wH hk2 this
 constructor
 ·conv=>lhs;rw [<-List.take_append_drop k L,List.filter_append]
  rw [List.filter_eq_self.2 hT,List.filter_eq_nil_iff.2 (fun y hy=>by rw [hasym _ _ (hD y hy)];simp),List.append_nil]
 ·conv=>lhs;rw [<-List.take_append_drop k L,List.filter_append]
  rw [List.filter_eq_self.2 hD,List.filter_eq_nil_iff.2 (fun y hy=>by rw [hasym _ _ (hT y hy)];simp),List.nil_append]
theorem RX (n:Int) (L:List az) (e:Ed) (hL:L.length<=1000000):∃r:Int × List az × Bool,qH ((n,L),e)=some (r,())/\wD ((n,L),e)=some (r,())/\r.2.1.length<=67/\(¬(0<=n/\WOk n.toNat L/\df n e=true/\e∉gE L)->r=(0,[],false))/\((0<=n/\WOk n.toNat L/\df n e=true/\e∉gE L)->r=(n,L.filter (fun y=>lsB (y.1,y.2.1) e)++[(e.1,e.2,0,!decide (aY n.toNat L 0 e.1=aY n.toNat L 0 e.2))]++L.filter (fun y=>lsB e (y.1,y.2.1)),true)):=by
 have hm:maxLen=9223372036854775807:=by decide
 have hgl:(gE L).length=L.length:=by unfold gE;rw [List.length_map]
 have hGi:jc (n,L)=some ((n,gE L),()):=yn n L (by omega);have hGs:iZ (n,L)=some ((n,gE L),()):=yu n L (by omega);obtain ⟨b,b1,b2⟩:=Jq n L (by omega);obtain ⟨b',b1',b2'⟩:=Jt n L (by omega);have hbb:b'=b:=by cases b<;>cases b'<;>simp_all
 subst hbb;show ∃r:Int × List az × Bool,M4 BIG _=_/\Ld BIG _=_/\_;rw [aj8,ajB,hGi,hGs,ae,ae];simp only;simp only [ahK n (gE L) e (by omega),UK n (gE L) e (by omega),b1,b1',ae];cases b' with
 | false=>exact ⟨_,rfl,rfl,by simp,fun _=>rfl,fun h=>absurd (b2.2 ⟨h.1,h.2.1⟩) (by simp)⟩
 | true=>
  obtain ⟨n0,hw⟩:=b2.1 rfl;obtain ⟨m,rfl⟩:∃m:Nat,n=(m:Int):=⟨n.toNat,by omega⟩
  rw [fH] at hw;have hg:=hw.gr;obtain ⟨h1,h12⟩:=xh hg;obtain ⟨hgE,hgn,hL6⟩:=il hg;have hsrt:oH (gE L):=by
   have h:=hg;unfold fD at h;rw [aP] at h;exact (ik h.2).2.1
  simp only [aZ,aj];unfold AZ;rw [hg,Bool.true_and];by_cases hc:(df (m:Int) e && !decide (e∈gE L))=true;case neg=>
   rw [if_neg hc];exact ⟨_,rfl,rfl,by simp,fun _=>rfl,fun h=>absurd (by rw [h.2.2.1,au h.2.2.2];rfl) hc⟩
  rw [if_pos hc];simp only [aP,Bool.not_eq_true',decide_eq_false_iff_not] at hc;obtain ⟨he,hne⟩:=hc;have her:=dF he;simp only [aZ,ae,aj];have hll:=bV m (aG L 0);rw [oJ L 0 h12 (by omega) (gF hg 0),ae];simp only
  -- the place
  have hkk:L.findIdx (fun y=>!lsB (y.1,y.2.1) e)<=L.length:=List.findIdx_le_length;have hpl:∀j (hj:j<L.length),j<L.findIdx (fun y=>!lsB (y.1,y.2.1) e)->lsB (L[j].1,L[j].2.1) e=true:=by
   intro j hj hlt;have:=List.not_of_lt_findIdx hlt;simpa using this
  have hps:∀hj:L.findIdx (fun y=>!lsB (y.1,y.2.1) e)<L.length,lsB (L[L.findIdx (fun y=>!lsB (y.1,y.2.1) e)].1,L[L.findIdx (fun y=>!lsB (y.1,y.2.1) e)].2.1) e=false:=by
   intro hj;have:=List.findIdx_getElem (w:=hj);simpa using this
  generalize L.findIdx (fun y=>!lsB (y.1,y.2.1) e)=kk at hkk hpl hps;obtain ⟨q1,q2⟩:=put_eq hsrt hne hkk hpl hps;have hloop:aI BIG (fun self6 x5=>
   Option.bind (bif decide (x5<(L.length:Int)) then
    bnd L.length x5 fun n7=>
    Option.bind L[n7]? fun y8=>
    bnd L.length x5 fun n9=>
    Option.bind L[n9]? fun y10=>
    Option.bind (uL ((y8.1,y10.2.1),e)) fun r11=>
    some r11.1
    else some false:Option (Bool)) fun x12=>
   bif x12 then
    self6 (IntKind.wrap .i64 (x5+(1:Int)))
   else some x5) (0:Int)=some ((kk:Nat):Int):=by
   refine ig (fun (x:Int)=>∃i:Nat,x=(i:Int)/\i<=kk) (fun x=>kk-x.toNat) (fun _=>((kk:Nat):Int)) (fun self x ⟨i,h1,h2⟩ hs => ?_) (n:=BIG) (x:=0) (by simp [BIG];omega) ⟨0,rfl,by omega⟩;subst h1;by_cases hi:i<L.length
   ·have bi:∀{B:Type} {q:Nat->Option B},bnd L.length (i:Int) q=q i:=fun {B q}=>aB hi
    simp only [show ((i:Int)<(L.length:Int)) from by omega,decide_true,ah,bi,aO hi,ae,RJ];by_cases hik:i<kk
    ·rw [hpl i hi hik,ah,bE (by omega)];exact hs _ ⟨i+1,rfl,hik⟩ (by simp;omega)
    ·have:i=kk:=by omega
     subst this;rw [hps hi,aj]
   ·have:i=kk:=by omega
    subst this;simp only [show ¬((i:Int)<(L.length:Int)) from by omega,decide_false,aj,ae]
  rw [hloop,ae];have gA:∀{B:Type} {q:Nat->Option B} {v:Int},0<=v/\v<m->bnd (labs m (aG L 0)).length v q=q v.toNat:=fun h=>bn h.1 (by omega)
  have gV:∀{v:Int},0<=v/\v<m->(labs m (aG L 0))[v.toNat]?=some (aY m L 0 v):=fun h=>getD_at (by omega)
  have hcp:sW ((m:Int),L.take kk)=some (((m:Int),L.take kk),()):=by
   show yh BIG _=_;rw [Ut,ai (by simp only [List.length_take];omega)];rfl
  have hdr:List.take (L.length-kk) (L.drop kk)=L.drop kk:=List.take_of_length_le (by rw [List.length_drop];omega);rw [ai (by omega),ah,fH,ai (by omega),ah,Nat.sub_zero,List.drop_zero,hcp,ae,gA ⟨her.1,her.2.1⟩,gV ⟨her.1,her.2.1⟩,ae,gA ⟨her.2.2.1,her.2.2.2.1⟩,gV ⟨her.2.2.1,her.2.2.2.1⟩,ae,hdr];simp only;rw [ai (by simp only [List.length_take,bA,List.length_nil];omega),ah,ai (by omega),ah,ai (by simp only [bZ,List.length_take,List.length_drop,bA,List.length_nil];omega),ah];have hyes:0<=(m:Int)/\WOk (m:Int).toNat L/\df (m:Int) e=true/\e∉gE L:=⟨n0,by rw [fH];exact hw,he,hne⟩
  refine ⟨_,rfl,?_,?_,fun h=>absurd hyes h,fun _ => ?_⟩
  rotate_right
  ·rw [q1,q2,fH]
  ·-- the reference
   obtain ⟨hE,hEn,hEl⟩:=Cc hg 0;obtain ⟨r,b,r1,r2,r3⟩:=vQ (n:=m) L 0 h1 h12 (by omega) hE;obtain ⟨Fs,rfl,hF⟩:=r3 (r2.2 hw.nc);obtain ⟨ja,pa,a1,a2,a3⟩:=mZ hE hF h12 h1 e.1 her.1 her.2.1;obtain ⟨jb,pb,c1,c2,c3⟩:=mZ hE hF h12 h1 e.2 her.2.2.1 her.2.2.2.1;have hiff:((ja:Int)=(jb:Int))↔aY m L 0 e.1=aY m L 0 e.2:=by
    rw [iL hg 0 ⟨her.1,her.2.1⟩ ⟨her.2.2.1,her.2.2.2.1⟩];constructor
    ·intro h;have:ja=jb:=by omega
     subst this;rw [a1,aK] at c1;subst c1;have hG:=hF.gt pa (List.mem_of_getElem? a1);exact ((hG.con hE _).1 a2).symm.trans ((hG.con hE _).1 c2)
    ·intro h;have:=hF.idx hE a1 c1 a2 c2 h;omega
   have hd:decide ((ja:Int)=(jb:Int))=decide (aY m L 0 e.1=aY m L 0 e.2):=by
    by_cases h:aY m L 0 e.1=aY m L 0 e.2
    ·rw [ai h,ai (hiff.2 h)]
    ·rw [au h,au (fun h'=>h (hiff.1 h'))]
   rw [r1,ae];simp only;rw [a3,ae,c3,ae,akM _ _ (by omega),ae];simp only;rw [q1,q2,hd]
  ·simp only [bZ,List.length_take,List.length_drop,bA,List.length_nil];omega
theorem aol {L:List az} {p:az->Nat} {rz hz:az->az} {j:Nat} {y:az} (h:(nP L p rz hz).2=some (j,y)):(nP L p rz hz).1[j]?=some y:=by
 unfold nP at h ⊢;split at h
 ·rename_i hlt;simp only [aK,Prod.mk.injEq] at h;obtain ⟨rfl,rfl⟩:=h;rw [dif_pos hlt];simp only;rw [List.getElem?_append_right (by rw [List.length_map,List.length_take];exact Nat.min_le_left ..),List.length_map,List.length_take,Nat.min_eq_left (Nat.le_of_lt hlt),Nat.sub_self];rfl
 ·cases h
def tO (n:Nat) (e:Ed):Nat->List az->List az × Option az
 | 0,L=>(L,none)
 | k+1,L=>match (sch n L e (k:Int)).2 with
  | none=>tO n e k (sch n L e (k:Int)).1
  | some (_,y)=>((sch n L e (k:Int)).1,some y)
theorem afv (n:Nat) (L:List az) (e:Ed) (k:Int):(sch n L e k).1.length=L.length:=by
 unfold sch;simp only;rw [aft,aft]
theorem ab_ (n:Nat) (e:Ed):∀(k:Nat) (L:List az),(tO n e k L).1.length=L.length
 | 0,L=>rfl
 | k+1,L=>by
  unfold tO;split
  ·rw [ab_ n e k,afv]
  ·exact afv ..
structure SOk (n:Nat) (L:List az):Prop where
 gr:fD n (gE L)=true
 nc:NoCyc (lH L)
theorem aqJ (L:List az) (k:Int):∀e,e∈aG L k->e∈lH L:=by
 intro e he;unfold aG at he;unfold lH;rw [List.mem_map] at he ⊢;obtain ⟨x,h1,h2⟩:=he;simp only [List.mem_filter,aP] at h1;exact ⟨x,List.mem_filter.2 ⟨h1.1,h1.2.1⟩,h2⟩
theorem UY (n:Nat) (L:List az) (e:Ed) (k:Int):gE (sch n L e k).1=gE L:=by
 unfold sch;simp only;rw [akL (rz:=iD k) (hz:=Ce) (fun _=>rfl) (fun _=>rfl),akL (rz:=iD k) (hz:=Ce) (fun _=>rfl) (fun _=>rfl)]
theorem aom {n:Nat} {L:List az} {e:Ed} {k:Int} (h:(sch n L e k).2=none):lH (sch n L e k).1=lH L:=by
 unfold sch at h ⊢;simp only at h ⊢;rw [afu (rz:=iD k) (hz:=Ce) (fun _=>rfl) (fun _=>rfl) h,afu (rz:=iD k) (hz:=Ce) (fun _=>rfl) (fun _=>rfl) (by rw [Fz (Cf _ _)])]
theorem SOk.sch {n:Nat} {L:List az} (h:SOk n L) {e:Ed} {k:Int} (hn:(sch n L e k).2=none):SOk n (sch n L e k).1:=⟨by rw [UY];exact h.gr,by rw [aom hn];exact h.nc⟩
def gZ (e:Ed) (s:az × List az) (y:az):az × List az:=if y.1=e.1/\y.2.1=e.2 then (y,s.2) else (s.1,s.2++[y])
theorem Oj (e:Ed):∀(L:List az) (o:az) (acc:List az),(L.foldl (gZ e) (o,acc)).2=acc++L.filter (fun y=>decide ((y.1,y.2.1)≠e))/\((L.foldl (gZ e) (o,acc)).1=o\/((L.foldl (gZ e) (o,acc)).1∈L/\((L.foldl (gZ e) (o,acc)).1.1,(L.foldl (gZ e) (o,acc)).1.2.1)=e))/\((∃y,y∈L/\(y.1,y.2.1)=e)->(L.foldl (gZ e) (o,acc)).1∈L/\((L.foldl (gZ e) (o,acc)).1.1,(L.foldl (gZ e) (o,acc)).1.2.1)=e)
 | [],o,acc=>by simp
 | x::L,o,acc=>by
  rw [List.foldl_cons]
  by_cases hx:x.1=e.1/\x.2.1=e.2
  ·have hxe:(x.1,x.2.1)=e:=by rw [hx.1,hx.2]
   have hs:gZ e (o,acc) x=(x,acc):=by unfold gZ;rw [if_pos hx]
   rw [hs]
   obtain ⟨h1,h2,h3⟩:=Oj e L x acc
   have h4:(L.foldl (gZ e) (x,acc)).1∈x::L/\((L.foldl (gZ e) (x,acc)).1.1,(L.foldl (gZ e) (x,acc)).1.2.1)=e:=by
    rcases h2 with h2|h2
    ·rw [h2];exact ⟨List.mem_cons_self ..,hxe⟩
    ·exact ⟨List.mem_cons_of_mem _ h2.1,h2.2⟩
   exact ⟨by rw [h1,List.filter_cons_of_neg (by simp [hxe])],.inr h4,fun _=>h4⟩
  ·have hxe:(x.1,x.2.1)≠e:=fun h=>hx ⟨by rw [<-h],by rw [<-h]⟩
   have hs:gZ e (o,acc) x=(o,acc++[x]):=by unfold gZ;rw [if_neg hx]
   rw [hs]
   obtain ⟨h1,h2,h3⟩:=Oj e L o (acc++[x])
   refine ⟨?_,?_,fun h => ?_⟩
   ·rw [h1,List.filter_cons_of_pos (by simpa using hxe)]
    simp
   ·rcases h2 with h2|h2
    ·exact .inl h2
    ·exact .inr ⟨List.mem_cons_of_mem _ h2.1,h2.2⟩
   ·obtain ⟨y,hy,hye⟩:=h
    rw [List.mem_cons] at hy
    rcases hy with rfl|hy
    ·exact absurd hye hxe
    ·have:=h3 ⟨y,hy,hye⟩
     exact ⟨List.mem_cons_of_mem _ this.1,this.2⟩
theorem akN (e:Ed) (L:List az) (i:Nat):((L.take i).foldl (gZ e) (((0:Int),(0:Int),(0:Int),false),[])).2.length<=i:=by
 rw [(Oj e (L.take i) _ []).1];have:=List.length_filter_le (fun y:az=>decide ((y.1,y.2.1)≠e)) (L.take i);rw [List.length_take] at this;rw [List.nil_append];omega
def Yz (n:Nat) (t:List az × Option az):((Int × List az) × (Int × List az) × (Int × Int)) ⊕ ((Int × List az) × (Int × Int) × Bool × Bool):=
 match t.2 with
 | none=>.inl (((n:Int),t.1),((0:Int),[]),((0:Int),(0:Int)))
 | some y=>.inr (((n:Int),t.1),(y.1,y.2.1),true,true)
section
variable {n:Nat} {e:Ed} (ha:0<=e.1/\e.1<n) (hb:0<=e.2/\e.2<n)
include ha hb
theorem aro (k:Nat) (hk:k<=5) (L:List az) (hS:SOk n L):aI BIG (fun self12 x11=>
  Option.bind (bif decide ((0:Int)<=x11.2.2.2) then
   some true
   else some false:Option (Bool)) fun x13=>
  bif x13 then
   Option.bind (lN (x11.1,e,x11.2.2.2)) fun r14=>
   bif r14.1.2.2 then
    some (Sum.inr (r14.2,(r14.1.1,r14.1.2.1),true,true))
   else self12 (r14.2,x11.2.1,x11.2.2.1,IntKind.wrap .i64 (x11.2.2.2-(1:Int)))
  else some (Sum.inl (x11.1,x11.2.1,x11.2.2.1))) ((((n:Int),L),((0:Int),[]),((0:Int),(0:Int)),(k:Int)-1):(Int × List az) × (Int × List az) × (Int × Int) × Int)=some (Yz n (tO n e k L)):=by
 have hm:maxLen=9223372036854775807:=by decide
 refine Exists.elim (qa (F:=fun self12 x11=>
  Option.bind (bif decide ((0:Int)<=x11.2.2.2) then
   some true
   else some false:Option (Bool)) fun x13=>
  bif x13 then
   Option.bind (lN (x11.1,e,x11.2.2.2)) fun r14=>
   bif r14.1.2.2 then
    some (Sum.inr (r14.2,(r14.1.1,r14.1.2.1),true,true))
   else self12 (r14.2,x11.2.1,x11.2.2.1,IntKind.wrap .i64 (x11.2.2.2-(1:Int)))
  else some (Sum.inl (x11.1,x11.2.1,x11.2.2.1))) (fun (x:(Int × List az) × (Int × List az) × (Int × Int) × Int)=>∃(k:Nat) (L:List az),x=(((n:Int),L),((0:Int),[]),((0:Int),(0:Int)),(k:Int)-1)/\k<=5/\SOk n L) (fun x=>(x.2.2.2+1).toNat)
  (fun x b=>∀(k:Nat) (L:List az),x=(((n:Int),L),((0:Int),[]),((0:Int),(0:Int)),(k:Int)-1)->b=Yz n (tO n e k L)) (fun self x hx hs => ?_) (n:=BIG) (x:=(((n:Int),L),((0:Int),[]),((0:Int),(0:Int)),(k:Int)-1)) (by simp [BIG];omega) ⟨k,L,rfl,hk,hS⟩) fun b hbb => ?_
 rotate_left
 ·rw [hbb.1,hbb.2 k L rfl]
 ·obtain ⟨k,L,rfl,hk,hS⟩:=hx;simp only at hs ⊢;have uniq:∀{k':Nat} {L':List az} ,((((n:Int),L),((0:Int),[]),((0:Int),(0:Int)),(k:Int)-1):(Int × List az) × (Int × List az) × (Int × Int) × Int)=(((n:Int),L'),((0:Int),[]),((0:Int),(0:Int)),(k':Int)-1)->k'=k/\L'=L:=by
   intro k' L' h;simp only [Prod.mk.injEq,true_and] at h;exact ⟨by omega,h.1.symm⟩
  cases k with
  | zero=>
   rw [au (by omega),aj,ae,aj];refine ⟨_,rfl,fun k' L' h => ?_⟩;obtain ⟨rfl,rfl⟩:=uniq h;rfl
  | succ k=>
   have hlev:((k+1:Nat):Int)-1=(k:Int):=by omega
   rw [hlev,ai (by omega),ah,ae,ah,ap7 hS.gr ha hb (by omega) (by omega),ae];cases hsc:(sch n L e (k:Int)).2 with
   | none=>
    simp only [aj];rw [wr (by omega) (by omega)];obtain ⟨b,g1,g2⟩:=hs (((n:Int),(sch n L e (k:Int)).1),((0:Int),[]),((0:Int),(0:Int)),(k:Int)-1) ⟨k,_,rfl,by omega,hS.sch hsc⟩ (by simp only;omega);refine ⟨b,g1,fun k' L' h => ?_⟩;rw [<-hlev] at h;obtain ⟨rfl,rfl⟩:=uniq h;rw [g2 k _ rfl];show _=Yz n (match (sch n L' e (k:Int)).2 with|none=>_|some (_,y)=>_);rw [hsc]
   | some r=>
    obtain ⟨j,y⟩:=r;simp only [ah];refine ⟨_,rfl,fun k' L' h => ?_⟩;rw [<-hlev] at h;obtain ⟨rfl,rfl⟩:=uniq h;show _=Yz n (match (sch n L' e (k:Int)).2 with|none=>_|some (_,y)=>_);rw [hsc];rfl
theorem arp (k:Nat) (hk:k<=5) (L:List az) (hS:SOk n L):aI BIG (fun self18 x17=>
  bif decide ((0:Int)<=x17.2.2.2) then
   Option.bind (mR (x17.1,e,x17.2.2.2)) fun r19=>
   bif decide ((0:Int)<=r19.1.2) then
    bnd r19.1.1.length r19.1.2 fun n20=>
    Option.bind r19.1.1[n20]? fun y21=>
    bnd r19.1.1.length r19.1.2 fun n22=>
    Option.bind r19.1.1[n22]? fun y23=>
    some (Sum.inr ((x17.1.1,r19.1.1),(y21.1,y23.2.1),true,true))
   else self18 ((x17.1.1,r19.1.1),x17.2.1,x17.2.2.1,IntKind.wrap .i64 (x17.2.2.2-(1:Int)))
  else some (Sum.inl (x17.1,x17.2.1,x17.2.2.1))) ((((n:Int),L),((0:Int),[]),((0:Int),(0:Int)),(k:Int)-1):(Int × List az) × (Int × List az) × (Int × Int) × Int)=some (Yz n (tO n e k L)):=by
 have hm:maxLen=9223372036854775807:=by decide
 refine Exists.elim (qa (F:=fun self18 x17=>
  bif decide ((0:Int)<=x17.2.2.2) then
   Option.bind (mR (x17.1,e,x17.2.2.2)) fun r19=>
   bif decide ((0:Int)<=r19.1.2) then
    bnd r19.1.1.length r19.1.2 fun n20=>
    Option.bind r19.1.1[n20]? fun y21=>
    bnd r19.1.1.length r19.1.2 fun n22=>
    Option.bind r19.1.1[n22]? fun y23=>
    some (Sum.inr ((x17.1.1,r19.1.1),(y21.1,y23.2.1),true,true))
   else self18 ((x17.1.1,r19.1.1),x17.2.1,x17.2.2.1,IntKind.wrap .i64 (x17.2.2.2-(1:Int)))
  else some (Sum.inl (x17.1,x17.2.1,x17.2.2.1))) (fun (x:(Int × List az) × (Int × List az) × (Int × Int) × Int)=>∃(k:Nat) (L:List az),x=(((n:Int),L),((0:Int),[]),((0:Int),(0:Int)),(k:Int)-1)/\k<=5/\SOk n L) (fun x=>(x.2.2.2+1).toNat)
  (fun x b=>∀(k:Nat) (L:List az),x=(((n:Int),L),((0:Int),[]),((0:Int),(0:Int)),(k:Int)-1)->b=Yz n (tO n e k L)) (fun self x hx hs => ?_) (n:=BIG) (x:=(((n:Int),L),((0:Int),[]),((0:Int),(0:Int)),(k:Int)-1)) (by simp [BIG];omega) ⟨k,L,rfl,hk,hS⟩) fun b hbb => ?_
 rotate_left
 ·rw [hbb.1,hbb.2 k L rfl]
 ·obtain ⟨k,L,rfl,hk,hS⟩:=hx;simp only at hs ⊢;have uniq:∀{k':Nat} {L':List az} ,((((n:Int),L),((0:Int),[]),((0:Int),(0:Int)),(k:Int)-1):(Int × List az) × (Int × List az) × (Int × Int) × Int)=(((n:Int),L'),((0:Int),[]),((0:Int),(0:Int)),(k':Int)-1)->k'=k/\L'=L:=by
   intro k' L' h;simp only [Prod.mk.injEq,true_and] at h;exact ⟨by omega,h.1.symm⟩
  cases k with
  | zero=>
   rw [au (by omega),aj];refine ⟨_,rfl,fun k' L' h => ?_⟩;obtain ⟨rfl,rfl⟩:=uniq h;rfl
  | succ k=>
   have hlev:((k+1:Nat):Int)-1=(k:Int):=by omega
   rw [hlev,ai (by omega),ah,amd hS.gr ha hb (by omega) (by omega) (hS.nc.sub (aqJ L k)),ae];cases hsc:(sch n L e (k:Int)).2 with
   | none=>
    simp only;rw [au (by omega),aj,wr (by omega) (by omega)];obtain ⟨b,g1,g2⟩:=hs (((n:Int),(sch n L e (k:Int)).1),((0:Int),[]),((0:Int),(0:Int)),(k:Int)-1) ⟨k,_,rfl,by omega,hS.sch hsc⟩ (by simp only;omega);refine ⟨b,g1,fun k' L' h => ?_⟩;rw [<-hlev] at h;obtain ⟨rfl,rfl⟩:=uniq h;rw [g2 k _ rfl];show _=Yz n (match (sch n L' e (k:Int)).2 with|none=>_|some (_,y)=>_);rw [hsc]
   | some r=>
    obtain ⟨j,y⟩:=r;have hj:(sch n L e (k:Int)).1[j]?=some y:=aol hsc;have hjl:=(aS hj).1;have bj:∀{B:Type} {q:Nat->Option B},bnd (sch n L e (k:Int)).1.length (j:Int) q=q j:=fun {B q}=>aB hjl
    simp only;rw [ai (by omega),ah];simp only [bj,hj,ae];refine ⟨_,rfl,fun k' L' h => ?_⟩;rw [<-hlev] at h;obtain ⟨rfl,rfl⟩:=uniq h;show _=Yz n (match (sch n L' e (k:Int)).2 with|none=>_|some (_,y)=>_);rw [hsc];rfl
end
theorem Nt (n : Int) (L : List az) (e : Ed) (hL : L.length ≤ 1000000) : ∃ r : Int × List az × Int × Int × Bool × Bool, jd ((n, L), e) = some (r, ()) ∧ jZ ((n, L), e) = some (r, ()) ∧ r.2.1.length ≤ 66 ∧ (¬ (0 ≤ n ∧ WOk n.toNat L ∧ e ∈ gE L) → r = (0, [], 0, 0, false, false)) ∧ ((0 ≤ n ∧ WOk n.toNat L ∧ e ∈ gE L) → ∃ old, old ∈ L ∧ (old.1, old.2.1) = e ∧ r.1 = n ∧ r.2.2.2.2.2 = true ∧ r.2.1 = if old.2.2.2 = true then (tO n.toNat e (old.2.2.1.toNat + 1) (L.filter fun y => decide ((y.1, y.2.1) ≠ e))).1 else L.filter fun y => decide ((y.1, y.2.1) ≠ e)) := by
  have hm : maxLen = 9223372036854775807 := by decide
  have hgl : (gE L).length = L.length := by unfold gE; rw [List.length_map]
  have hGi : jc (n, L) = some ((n, gE L), ()) := yn n L (by omega);have hGs : iZ (n, L) = some ((n, gE L), ()) := yu n L (by omega);obtain ⟨b, b1, b2⟩ := Jq n L (by omega);obtain ⟨b', b1', b2'⟩ := Jt n L (by omega);have hbb : b' = b := by cases b <;> cases b' <;> simp_all
  subst hbb;show ∃ r : Int × List az × Int × Int × Bool × Bool, I4 BIG _ = _ ∧ Hl BIG _ = _ ∧ _;rw [ahw, agX, b1, b1', ae, ae, hGi, hGs];cases b' with
  | false => exact ⟨_, rfl, rfl, by simp, fun _ => rfl, fun h => absurd (b2.2 ⟨h.1, h.2.1⟩) (by simp)⟩
  | true =>
    obtain ⟨n0, hw⟩ := b2.1 rfl;obtain ⟨m, rfl⟩ : ∃ m : Nat, n = (m : Int) := ⟨n.toNat, by omega⟩
    rw [fH] at hw;have hg := hw.gr;obtain ⟨h1, h12⟩ := xh hg;obtain ⟨hgE, hgn, hL6⟩ := il hg;simp only [aZ, aj, ae];rw [UI _ _ _ (by omega), Jj _ _ _ (by omega), ae, ae];by_cases hin : e ∈ gE L;case neg =>
      rw [au hin];exact ⟨_, rfl, rfl, by simp, fun _ => rfl, fun h => absurd h.2.2 hin⟩
    rw [ai hin];simp only [aZ, aj, ae];have her := dF (hgE e hin)
    -- the lost one and the others
    have li : aI BIG (fun self5 x4 =>
    bif decide (x4.2.2 < (L.length : Int)) then
     Option.bind (bnd L.length x4.2.2 fun n6 =>
      Option.bind L[n6]? fun y7 =>
      Option.bind (bif decide (y7.1 = e.1) then
        some (decide (y7.2.1 = e.2))
       else some false : Option (Bool)) fun x8 =>
      bif x8 then
       some (y7, x4.2.1)
      else bif decide (x4.2.1.2.length + [y7].length ≤ 4294967296) then
       some (x4.1, (x4.2.1.1, x4.2.1.2 ++ [y7]))
      else none : Option ((Int × Int × Int × Bool) × (Int × List (Int × Int × Int × Bool)))) fun x9 =>
     self5 (x9.1, x9.2, IntKind.wrap .i64 (x4.2.2 + (1 : Int)))
    else some (x4.1, x4.2.1)) ((((0 : Int), (0 : Int), (0 : Int), false), ((m : Int), []), (0 : Int)) : az × (Int × List az) × Int) = some ((L.foldl (gZ e) (((0 : Int), (0 : Int), (0 : Int), false), [])).1, ((m : Int), (L.foldl (gZ e) (((0 : Int), (0 : Int), (0 : Int), false), [])).2)) := by
      refine ig (fun (x : az × (Int × List az) × Int) => ∃ i : Nat, i ≤ L.length ∧ x = (((L.take i).foldl (gZ e) (((0 : Int), (0 : Int), (0 : Int), false), [])).1, ((m : Int), ((L.take i).foldl (gZ e) (((0 : Int), (0 : Int), (0 : Int), false), [])).2), (i : Int))) (fun x => L.length - x.2.2.toNat) (fun _ => _) (fun self x ⟨i, h1, h2⟩ hs => ?_) (n := BIG) (x := _) (by simp [BIG]; omega) ⟨0, by omega, rfl⟩;subst h2;simp only;by_cases hi : i < L.length
      · have hfl := akN e L i
        simp only [show ((i : Int) < (L.length : Int)) from by omega, decide_true, ah]
        rw [aB hi, aO hi, ae, bE (by omega)]
        have hst : (L.take (i + 1)).foldl (gZ e) (((0 : Int), (0 : Int), (0 : Int), false), []) = gZ e ((L.take i).foldl (gZ e) (((0 : Int), (0 : Int), (0 : Int), false), [])) L[i] := by
          rw [List.take_succ_eq_append_getElem hi, List.foldl_append]; rfl
        have hn := hs (((L.take (i + 1)).foldl (gZ e) (((0 : Int), (0 : Int), (0 : Int), false), [])).1, ((m : Int), ((L.take (i + 1)).foldl (gZ e) (((0 : Int), (0 : Int), (0 : Int), false), [])).2), ((i + 1 : Nat) : Int)) ⟨i + 1, hi, rfl⟩ (by simp; omega)
        rw [hst] at hn
        unfold gZ at hn
        by_cases c1 : L[i].1 = e.1
        · rw [ai c1, ah, ae]
          by_cases c2 : L[i].2.1 = e.2
          · rw [ai c2, ah, ae]
            rw [if_pos ⟨c1, c2⟩] at hn
            exact hn
          · rw [au c2, aj, ai (by simp only [bA, List.length_nil]; omega), ah, ae]
            rw [if_neg (fun h => c2 h.2)] at hn
            exact hn
        · rw [au c1, aj, ae, aj, ai (by simp only [bA, List.length_nil]; omega), ah, ae]
          rw [if_neg (fun h => c1 h.1)] at hn
          exact hn
      · simp only [show ¬ ((i : Int) < (L.length : Int)) from by omega, decide_false, aj]
        have : i = L.length := by omega
        subst this
        rw [List.take_length]
    have ls : aI BIG (fun self5 x4 =>
    bif decide (x4.2.2 < (L.length : Int)) then
     Option.bind (Option.bind (bnd L.length x4.2.2 fun n6 =>
       Option.bind L[n6]? fun y7 =>
       bif decide (y7.1 = e.1) then
        bnd L.length x4.2.2 fun n8 =>
        Option.bind L[n8]? fun y9 =>
        some (decide (y9.2.1 = e.2))
       else some false : Option (Bool)) fun x10 =>
      bif x10 then
       bnd L.length x4.2.2 fun n11 =>
       Option.bind L[n11]? fun y12 =>
       some (y12, x4.2.1)
      else bnd L.length x4.2.2 fun n13 =>
      Option.bind L[n13]? fun y14 =>
      bif decide (x4.2.1.2.length + [y14].length ≤ 4294967296) then
       some (x4.1, (x4.2.1.1, x4.2.1.2 ++ [y14]))
      else none : Option ((Int × Int × Int × Bool) × (Int × List (Int × Int × Int × Bool)))) fun x15 =>
     self5 (x15.1, x15.2, IntKind.wrap .i64 (x4.2.2 + (1 : Int)))
    else some (x4.1, x4.2.1)) ((((0 : Int), (0 : Int), (0 : Int), false), ((m : Int), []), (0 : Int)) : az × (Int × List az) × Int) = some ((L.foldl (gZ e) (((0 : Int), (0 : Int), (0 : Int), false), [])).1, ((m : Int), (L.foldl (gZ e) (((0 : Int), (0 : Int), (0 : Int), false), [])).2)) := by
      refine ig (fun (x : az × (Int × List az) × Int) => ∃ i : Nat, i ≤ L.length ∧ x = (((L.take i).foldl (gZ e) (((0 : Int), (0 : Int), (0 : Int), false), [])).1, ((m : Int), ((L.take i).foldl (gZ e) (((0 : Int), (0 : Int), (0 : Int), false), [])).2), (i : Int))) (fun x => L.length - x.2.2.toNat) (fun _ => _) (fun self x ⟨i, h1, h2⟩ hs => ?_) (n := BIG) (x := _) (by simp [BIG]; omega) ⟨0, by omega, rfl⟩;subst h2;simp only;by_cases hi : i < L.length
      · have hfl := akN e L i
        have bi : ∀ {B : Type} {q : Nat → Option B}, bnd L.length (i : Int) q = q i := fun {B q} => aB hi
        simp only [show ((i : Int) < (L.length : Int)) from by omega, decide_true, ah, bi, aO hi, ae]
        rw [bE (by omega)]
        have hst : (L.take (i + 1)).foldl (gZ e) (((0 : Int), (0 : Int), (0 : Int), false), []) = gZ e ((L.take i).foldl (gZ e) (((0 : Int), (0 : Int), (0 : Int), false), [])) L[i] := by
          rw [List.take_succ_eq_append_getElem hi, List.foldl_append]; rfl
        have hn := hs (((L.take (i + 1)).foldl (gZ e) (((0 : Int), (0 : Int), (0 : Int), false), [])).1, ((m : Int), ((L.take (i + 1)).foldl (gZ e) (((0 : Int), (0 : Int), (0 : Int), false), [])).2), ((i + 1 : Nat) : Int)) ⟨i + 1, hi, rfl⟩ (by simp; omega)
        rw [hst] at hn
        unfold gZ at hn
        by_cases c1 : L[i].1 = e.1
        · rw [ai c1, ah, ae]
          by_cases c2 : L[i].2.1 = e.2
          · rw [ai c2, ah, ae]
            rw [if_pos ⟨c1, c2⟩] at hn
            exact hn
          · rw [au c2, aj, ai (by simp only [bA, List.length_nil]; omega), ah, ae]
            rw [if_neg (fun h => c2 h.2)] at hn
            exact hn
        · rw [au c1, aj, ae, aj, ai (by simp only [bA, List.length_nil]; omega), ah, ae]
          rw [if_neg (fun h => c1 h.1)] at hn
          exact hn
      · simp only [show ¬ ((i : Int) < (L.length : Int)) from by omega, decide_false, aj]
        have : i = L.length := by omega
        subst this
        rw [List.take_length]
    rw [li, ls, ae, ae];obtain ⟨s1, s2, s3⟩ := Oj e L (((0 : Int), (0 : Int), (0 : Int), false)) [];have hold := s3 (by
      obtain ⟨y, hy, hye⟩ := List.mem_map.1 hin
      exact ⟨y, hy, hye⟩)
    rw [List.nil_append] at s1;generalize L.foldl (gZ e) (((0 : Int), (0 : Int), (0 : Int), false), []) = S at s1 hold;obtain ⟨old, rest⟩ := S;simp only at s1 hold ⊢;obtain ⟨hold, holde⟩ := hold;have hyes : 0 ≤ (m : Int) ∧ WOk (m : Int).toNat L ∧ e ∈ gE L := ⟨n0, by rw [fH]; exact hw, hin⟩
    have hsub : rest.Sublist L := by rw [s1]; exact List.filter_sublist
    have hrl := hsub.length_le;have hgr : fD m (gE rest) = true := by
      have hsE : (gE rest).Sublist (gE L) := List.Sublist.map _ hsub;have hsrt : oH (gE L) := by
        have h := hg;unfold fD at h;rw [aP] at h;exact (ik h.2).2.1
      have hG : GrOk (m : Int) (gE rest) := ⟨by omega, by omega, List.Pairwise.sublist hsE hsrt, fun x hx => hgE x (hsE.subset hx)⟩
      unfold fD;rw [show aU (m : Int) 1 12 = true from aQ.2 (by omega), Ng hG (by unfold gE; rw [List.length_map]; omega)];rfl
    have htr : NoCyc (lH rest) := by
      have : NoCyc (lH L) := by rw [ahR hw.lv]; exact hw.nc
      exact this.sub fun x hx => (List.Sublist.map _ (List.Sublist.filter _ hsub)).subset hx
    have hlv := hw.lv old hold;cases ht : old.2.2.2 with
    | false =>
      have h0 : ∀ x : Int, (bif decide ((0 : Int) ≤ x) then some false else some false : Option Bool) = some false := fun x => by cases decide ((0 : Int) ≤ x) <;> rfl
      refine ⟨((m : Int), rest, (0 : Int), (0 : Int), false, true), ?_, rfl, by simp only; omega, fun h => absurd hyes h, fun _ => ⟨old, hold, holde, rfl, rfl, by rw [if_neg (by rw [ht]; simp)]; exact s1⟩⟩;have : aI BIG (fun (self12 : (Int × List az) × (Int × List az) × (Int × Int) × Int → Option (((Int × List az) × (Int × List az) × (Int × Int)) ⊕ ((Int × List az) × (Int × Int) × Bool × Bool))) x11 =>
    Option.bind (bif decide ((0 : Int) ≤ x11.2.2.2) then
      some false
     else some false : Option (Bool)) fun x13 =>
    bif x13 then
     Option.bind (lN (x11.1, e, x11.2.2.2)) fun r14 =>
     bif r14.1.2.2 then
      some (Sum.inr (r14.2, (r14.1.1, r14.1.2.1), true, true))
     else self12 (r14.2, x11.2.1, x11.2.2.1, IntKind.wrap .i64 (x11.2.2.2 - (1 : Int)))
    else some (Sum.inl (x11.1, x11.2.1, x11.2.2.1))) ((((m : Int), rest), ((0 : Int), []), ((0 : Int), (0 : Int)), old.2.2.1) : (Int × List az) × (Int × List az) × (Int × Int) × Int) = some (Sum.inl (((m : Int), rest), ((0 : Int), []), ((0 : Int), (0 : Int)))) := by
        refine ig (fun x => x = ((((m : Int), rest), ((0 : Int), []), ((0 : Int), (0 : Int)), old.2.2.1) : (Int × List az) × (Int × List az) × (Int × Int) × Int)) (fun _ => 0) (fun _ => _) (fun self x hx hs => ?_) (n := BIG) (x := _) (by simp [BIG]) rfl;subst hx;rw [h0, ae, aj]
      rw [this, ae]
    | true =>
      have hlev : old.2.2.1 = ((old.2.2.1.toNat + 1 : Nat) : Int) - 1 := by omega
      have t1 := aro ⟨her.1, her.2.1⟩ ⟨her.2.2.1, her.2.2.2.1⟩ (old.2.2.1.toNat + 1) (by omega) rest ⟨hgr, htr⟩;have t2 := arp ⟨her.1, her.2.1⟩ ⟨her.2.2.1, her.2.2.2.1⟩ (old.2.2.1.toNat + 1) (by omega) rest ⟨hgr, htr⟩;rw [← hlev] at t1 t2;simp only [aZ, aj];rw [t1, t2, ae, ae];have hl := ab_ m e (old.2.2.1.toNat + 1) rest;rw [fH];subst s1;generalize htk : tO m e (old.2.2.1.toNat + 1) (L.filter fun y => decide ((y.1, y.2.1) ≠ e)) = t at hl;obtain ⟨M, o⟩ := t;simp only at hl;cases o with
      | none => exact ⟨_, rfl, rfl, by simp only; omega, fun h => absurd hyes h, fun _ => ⟨old, hold, holde, rfl, rfl, by rw [if_pos ht, htk]⟩⟩
      | some y => exact ⟨_, rfl, rfl, by simp only; omega, fun h => absurd hyes h, fun _ => ⟨old, hold, holde, rfl, rfl, by rw [if_pos ht, htk]⟩⟩
abbrev Wb:=Int × List az
noncomputable def WT (W:Wb) (e:Ed):Int × List az × Int × Int × Bool × Bool:=((jd (W,e)).getD ((0,[],0,0,false,false),())).1
noncomputable def WA (W:Wb) (e:Ed):Int × List az × Bool:=((qH (W,e)).getD ((0,[],false),())).1
theorem Y9 {W:Wb} (e:Ed) (h:W.2.length<=1000000):jd (W,e)=some (WT W e,())/\jZ (W,e)=some (WT W e,())/\(WT W e).2.1.length<=66:=by
 obtain ⟨n,L⟩:=W;obtain ⟨r,h1,h2,h3,_⟩:=Nt n L e h;have:WT (n,L) e=r:=by unfold WT;rw [h1];rfl
 rw [this];exact ⟨h1,h2,h3⟩
theorem ahU {W:Wb} (e:Ed) (h:W.2.length<=1000000):qH (W,e)=some (WA W e,())/\wD (W,e)=some (WA W e,())/\(WA W e).2.1.length<=67:=by
 obtain ⟨n,L⟩:=W;obtain ⟨r,h1,h2,h3,_⟩:=RX n L e h;have:WA (n,L) e=r:=by unfold WA;rw [h1];rfl
 rw [this];exact ⟨h1,h2,h3⟩
theorem xm (y:An) (h1:y.2.2.1.length<=1048576) (h2:y.2.2.2.length<=1048576):jI y=some (y,()):=by
 show w9 BIG _=_;have hi:ji y.2.2.2=some (y.2.2.2,()):=by
  show vD BIG _=_;rw [Pm,ai (by omega)];rfl
 rw [YS,A7 _ h1,ae,hi];rfl
theorem qi (y:An) (h1:y.2.2.1.length<=1048576) (h2:y.2.2.2.length<=1048576):ic y=some (y,()):=by
 show pK BIG _=_;rw [QP,ai (by omega),ah,ai (by omega),ah];rfl
theorem Nu (x0 x1:Int) (L:List az) (y:An) (hL:L.length<=1048576) (h1:y.2.2.1.length<=1048576) (h2:y.2.2.2.length<=1048576):AL (x0,x1,L,y)=some ((x0,x1,L,y),()):=by
 show AJ BIG _=_;have hw:sW (x1,L)=some ((x1,L),()):=by
  show yh BIG _=_;rw [Ut,ai (by simp only;omega)];rfl
 rw [abE];simp only [hw,ae,xm y h1 h2]
theorem UZ (x0 x1:Int) (L:List az) (y:An) (hL:L.length<=1048576) (h1:y.2.2.1.length<=1048576) (h2:y.2.2.2.length<=1048576):rY (x0,x1,L,y)=some ((x0,x1,L,y),()):=by
 show GZ BIG _=_;rw [agO,ai (by simp only;omega),ah];simp only [qi y h1 h2,ae,List.nil_append]
noncomputable def fZ (v:Int) (s:Wb × List Ed) (y:Ed):Wb × List Ed:=if y.1=v\/y.2=v then (((WT s.1 y).1,(WT s.1 y).2.1),s.2++[y]) else s
noncomputable def gT (s:Wb × Bool) (y:Ed):Wb × Bool:=(if (WA s.1 y).2.2=true then ((WA s.1 y).1,(WA s.1 y).2.1) else s.1,s.2&&(WA s.1 y).2.2)
theorem Ol (v:Int):∀(es:List Ed) (s:Wb × List Ed),s.1.2.length<=1000000->(es.foldl (fZ v) s).1.2.length<=1000000/\(es.foldl (fZ v) s).2.length<=s.2.length+es.length
 | [],s,h=>⟨h,by simp⟩
 | y::es,s,h=>by
  rw [List.foldl_cons];have h1:=(Y9 y h).2.2;by_cases hc:y.1=v\/y.2=v
  ·have hs:fZ v s y=(((WT s.1 y).1,(WT s.1 y).2.1),s.2++[y]):=by unfold fZ;rw [if_pos hc]
   obtain ⟨a,b⟩:=Ol v es (fZ v s y) (by rw [hs];simp only;omega);refine ⟨a,?_⟩;rw [hs] at b ⊢;simp only [bZ,bA,List.length_nil] at b ⊢;omega
  ·have hs:fZ v s y=s:=by unfold fZ;rw [if_neg hc]
   obtain ⟨a,b⟩:=Ol v es (fZ v s y) (by rw [hs];exact h);refine ⟨a,?_⟩;rw [hs] at b ⊢;simp only [bA];omega
theorem WE:∀(es:List Ed) (s:Wb × Bool),s.1.2.length<=1000000->(es.foldl gT s).1.2.length<=1000000
 | [],s,h=>h
 | y::es,s,h=>by
  rw [List.foldl_cons];have h1:=(ahU y h).2.2;refine WE es _ ?_;unfold gT;simp only;split
  ·simp only;omega
  ·exact h
theorem Cg {α S:Type} (st:S->α->S) (s:S) {l:List α} {i:Nat} (hi:i<l.length):(l.take (i+1)).foldl st s=st ((l.take i).foldl st s) l[i]:=by
 rw [List.take_succ_eq_append_getElem hi,List.foldl_append];rfl
section
variable (x0 n:Int) (L:List az) (y:An) (hL:L.length<=1000000)
include hL
theorem akO (v:Int):lm ((x0,n,L,y),v)=some (((gE L).foldl (fZ v) ((n,L),[])).2,(x0,((gE L).foldl (fZ v) ((n,L),[])).1.1,((gE L).foldl (fZ v) ((n,L),[])).1.2,y)):=by
 have hm:maxLen=9223372036854775807:=by decide
 have hgl:(gE L).length=L.length:=by unfold gE;rw [List.length_map]
 have hO:I6 (x0,n,L,y)=some (gE L,()):=al5 x0 n L y.1 y.2.1 y.2.2.1 y.2.2.2 (by omega);show pX BIG _=_;rw [RA,hO,ae];generalize gE L=E at hgl;have:aI BIG (fun self2 x1=>
  bif decide (x1.2.2<(E.length:Int)) then
   Option.bind (bnd E.length x1.2.2 fun n3=>
    Option.bind E[n3]? fun y4=>
    Option.bind (bif decide (y4.1=v) then
     some true
     else some (decide (y4.2=v)):Option (Bool)) fun x5=>
    bif x5 then
     Option.bind (jd ((x1.1.2.1,x1.1.2.2.1),y4)) fun r6=>
     bif decide (x1.2.1.length+[y4].length<=4294967296) then
      some ((x1.1.1,r6.1.1,r6.1.2.1,x1.1.2.2.2),x1.2.1++[y4])
     else none
    else some (x1.1,x1.2.1):Option ((Int × Int × List (Int × Int × Int × Bool) × Int × Bool × List (Int × Int) × List (Int)) × (List (Int × Int)))) fun x7=>
   self2 (x7.1,x7.2,IntKind.wrap .i64 (x1.2.2+(1:Int)))
  else some (x1.1,x1.2.1)) (((x0,n,L,y),[],(0:Int)):(Int × Int × List az × An) × List Ed × Int)=some ((x0,(E.foldl (fZ v) ((n,L),[])).1.1,(E.foldl (fZ v) ((n,L),[])).1.2,y),(E.foldl (fZ v) ((n,L),[])).2):=by
  refine ig (fun (x:(Int × Int × List az × An) × List Ed × Int)=>∃i:Nat,i<=E.length/\x=((x0,((E.take i).foldl (fZ v) ((n,L),[])).1.1,((E.take i).foldl (fZ v) ((n,L),[])).1.2,y),((E.take i).foldl (fZ v) ((n,L),[])).2,(i:Int))) (fun x=>E.length-x.2.2.toNat) (fun _=>_) (fun self x ⟨i,h1,h2⟩ hs => ?_) (n:=BIG) (x:=_) (by simp [BIG];omega) ⟨0,by omega,rfl⟩;subst h2;simp only;by_cases hi:i<E.length
  ·obtain ⟨l1,l2⟩:=Ol v (E.take i) ((n,L),[]) hL;rw [List.length_take] at l2;simp only [List.length_nil] at l2;have hn:=hs ((x0,((E.take (i+1)).foldl (fZ v) ((n,L),[])).1.1,((E.take (i+1)).foldl (fZ v) ((n,L),[])).1.2,y),((E.take (i+1)).foldl (fZ v) ((n,L),[])).2,((i+1:Nat):Int)) ⟨i+1,hi,rfl⟩ (by simp;omega);rw [Cg _ _ hi] at hn;obtain ⟨t1,_,t3⟩:=Y9 E[i] l1;generalize (E.take i).foldl (fZ v) ((n,L),[])=s at l1 l2 hn t1 t3;obtain ⟨⟨a,M⟩,out⟩:=s;simp only at l1 l2 t1 t3;unfold fZ at hn;simp only [show ((i:Int)<(E.length:Int)) from by omega,decide_true,ah];rw [aB hi,aO hi,ae,bE (by omega)];have hc:(bif decide (E[i].1=v) then some true else some (decide (E[i].2=v)):Option Bool)=some (decide (E[i].1=v\/E[i].2=v)):=by
    by_cases c1:E[i].1=v<;>by_cases c2:E[i].2=v<;>simp [c1,c2]
   rw [hc,ae];by_cases c:E[i].1=v\/E[i].2=v
   ·rw [ai c,ah,t1,ae,ai (by simp only [bA,List.length_nil];omega),ah,ae];rw [if_pos c] at hn;exact hn
   ·rw [au c,aj,ae];rw [if_neg c] at hn;exact hn
  ·simp only [show ¬((i:Int)<(E.length:Int)) from by omega,decide_false,aj];have:i=E.length:=by omega
   subst this;rw [List.take_length]
 rw [this,ae]
theorem ahV (v num:Int) (E:List Ed) (hE:E.length<=1000000):aI BIG (fun self20 x19=>
   bif decide (x19.2.2<(E.length:Int)) then
    Option.bind (Option.bind (bnd E.length x19.2.2 fun n21=>
     Option.bind E[n21]? fun y22=>
     bif decide (y22.1=v) then
      some true
     else bnd E.length x19.2.2 fun n23=>
     Option.bind E[n23]? fun y24=>
     some (decide (y24.2=v)):Option (Bool)) fun x25=>
     bif x25 then
      bnd E.length x19.2.2 fun n26=>
      Option.bind E[n26]? fun y27=>
      Option.bind (jZ (x19.1,y27)) fun r28=>
      bnd E.length x19.2.2 fun n29=>
      Option.bind E[n29]? fun y30=>
      bif decide (x19.2.1.2.2.1.length+[y30].length<=4294967296) then
       some ((r28.1.1,r28.1.2.1),(x19.2.1.1,x19.2.1.2.1,x19.2.1.2.2.1++[y30],x19.2.1.2.2.2))
      else none
     else some (x19.1,x19.2.1):Option ((Int × List (Int × Int × Int × Bool)) × (Int × Bool × List (Int × Int) × List (Int)))) fun x31=>
    self20 (x31.1,x31.2,IntKind.wrap .i64 (x19.2.2+(1:Int)))
   else some (x19.1,x19.2.1)) (((n,L),(num,true,[],[]),(0:Int)):Wb × An × Int)=some ((E.foldl (fZ v) ((n,L),[])).1,(num,true,(E.foldl (fZ v) ((n,L),[])).2,[])):=by
 have hm:maxLen=9223372036854775807:=by decide
 refine ig (fun (x:Wb × An × Int)=>∃i:Nat,i<=E.length/\x=(((E.take i).foldl (fZ v) ((n,L),[])).1,(num,true,((E.take i).foldl (fZ v) ((n,L),[])).2,[]),(i:Int))) (fun x=>E.length-x.2.2.toNat) (fun _=>_) (fun self x ⟨i,h1,h2⟩ hs => ?_) (n:=BIG) (x:=_) (by simp [BIG];omega) ⟨0,by omega,rfl⟩;subst h2;simp only;by_cases hi:i<E.length
 ·obtain ⟨l1,l2⟩:=Ol v (E.take i) ((n,L),[]) hL;rw [List.length_take] at l2;simp only [List.length_nil] at l2;have hn:=hs (((E.take (i+1)).foldl (fZ v) ((n,L),[])).1,(num,true,((E.take (i+1)).foldl (fZ v) ((n,L),[])).2,[]),((i+1:Nat):Int)) ⟨i+1,hi,rfl⟩ (by simp;omega);rw [Cg _ _ hi] at hn;obtain ⟨_,t1,t3⟩:=Y9 E[i] l1;generalize (E.take i).foldl (fZ v) ((n,L),[])=s at l1 l2 hn t1 t3;obtain ⟨W,out⟩:=s;simp only at l1 l2 t1 t3;unfold fZ at hn;have bi:∀{B:Type} {q:Nat->Option B},bnd E.length (i:Int) q=q i:=fun {B q}=>aB hi
  simp only [show ((i:Int)<(E.length:Int)) from by omega,decide_true,ah,bi,aO hi,ae];rw [bE (by omega)];have hc:(bif decide (E[i].1=v) then some true else some (decide (E[i].2=v)):Option Bool)=some (decide (E[i].1=v\/E[i].2=v)):=by
   by_cases c1:E[i].1=v<;>by_cases c2:E[i].2=v<;>simp [c1,c2]
  rw [hc,ae];by_cases c:E[i].1=v\/E[i].2=v
  ·rw [ai c,ah,t1,ae,ai (by simp only [bA,List.length_nil];omega),ah,ae];rw [if_pos c] at hn;exact hn
  ·rw [au c,aj,ae];rw [if_neg c] at hn;exact hn
 ·simp only [show ¬((i:Int)<(E.length:Int)) from by omega,decide_false,aj];have:i=E.length:=by omega
  subst this;rw [List.take_length]
theorem ame (E:List Ed) (hE:E.length<=1000000):mh ((x0,n,L,y),E)=some ((E.foldl gT ((n,L),true)).2,(x0,(E.foldl gT ((n,L),true)).1.1,(E.foldl gT ((n,L),true)).1.2,y)):=by
 have hm:maxLen=9223372036854775807:=by decide
 show tu BIG _=_;rw [Uz];have:aI BIG (fun self1 x0=>
  bif decide (x0.2.2<(E.length:Int)) then
   Option.bind (bnd E.length x0.2.2 fun n2=>
    Option.bind E[n2]? fun y3=>
    Option.bind (qH ((x0.1.2.1,x0.1.2.2.1),y3)) fun r4=>
    Option.bind (bif r4.1.2.2 then
     some (x0.1.1,r4.1.1,r4.1.2.1,x0.1.2.2.2)
     else some x0.1:Option ((Int × Int × List (Int × Int × Int × Bool) × Int × Bool × List (Int × Int) × List (Int)))) fun x5=>
    Option.bind (bif x0.2.1 then
     some r4.1.2.2
     else some false:Option (Bool)) fun x6=>
    some (x5,x6):Option ((Int × Int × List (Int × Int × Int × Bool) × Int × Bool × List (Int × Int) × List (Int)) × Bool)) fun x7=>
   self1 (x7.1,x7.2,IntKind.wrap .i64 (x0.2.2+(1:Int)))
  else some (x0.1,x0.2.1)) (((x0,n,L,y),true,(0:Int)):(Int × Int × List az × An) × Bool × Int)=some ((x0,(E.foldl gT ((n,L),true)).1.1,(E.foldl gT ((n,L),true)).1.2,y),(E.foldl gT ((n,L),true)).2):=by
  refine ig (fun (x:(Int × Int × List az × An) × Bool × Int)=>∃i:Nat,i<=E.length/\x=((x0,((E.take i).foldl gT ((n,L),true)).1.1,((E.take i).foldl gT ((n,L),true)).1.2,y),((E.take i).foldl gT ((n,L),true)).2,(i:Int))) (fun x=>E.length-x.2.2.toNat) (fun _=>_) (fun self x ⟨i,h1,h2⟩ hs => ?_) (n:=BIG) (x:=_) (by simp [BIG];omega) ⟨0,by omega,rfl⟩;subst h2;simp only;by_cases hi:i<E.length
  ·have l1:=WE (E.take i) ((n,L),true) hL;have hn:=hs ((x0,((E.take (i+1)).foldl gT ((n,L),true)).1.1,((E.take (i+1)).foldl gT ((n,L),true)).1.2,y),((E.take (i+1)).foldl gT ((n,L),true)).2,((i+1:Nat):Int)) ⟨i+1,hi,rfl⟩ (by simp;omega);rw [Cg _ _ hi] at hn;obtain ⟨t1,_,t3⟩:=ahU E[i] l1;generalize (E.take i).foldl gT ((n,L),true)=s at l1 hn t1 t3;obtain ⟨⟨a,M⟩,al⟩:=s;simp only at l1 t1 t3;unfold gT at hn;simp only [show ((i:Int)<(E.length:Int)) from by omega,decide_true,ah];rw [aB hi,aO hi,ae,bE (by omega),t1,ae];simp only at hn ⊢;cases hok:(WA (a,M) E[i]).2.2 with
   | true=>
    rw [hok] at hn;simp only [if_true,Bool.and_true] at hn;cases al<;>exact hn
   | false=>
    rw [hok] at hn;simp only [Bool.false_eq_true,if_false,Bool.and_false] at hn;cases al<;>exact hn
  ·simp only [show ¬((i:Int)<(E.length:Int)) from by omega,decide_false,aj];have:i=E.length:=by omega
   subst this;rw [List.take_length]
 rw [this,ae]
theorem akP (num:Int) (E:List Ed) (hE:E.length<=1000000):aI BIG (fun self7 x6=>
   bif decide (x6.2.2<(E.length:Int)) then
    Option.bind (bnd E.length x6.2.2 fun n8=>
     Option.bind E[n8]? fun y9=>
     Option.bind (wD (x6.1,y9)) fun r10=>
     Option.bind (bif r10.1.2.2 then
      some (r10.1.1,r10.1.2.1)
      else some x6.1:Option ((Int × List (Int × Int × Int × Bool)))) fun x11=>
     Option.bind (bif x6.2.1.2.1 then
      some (x6.2.1.1,r10.1.2.2,x6.2.1.2.2)
      else some (x6.2.1.1,false,x6.2.1.2.2):Option ((Int × Bool × List (Int × Int) × List (Int)))) fun x12=>
     some (x11,x12):Option ((Int × List (Int × Int × Int × Bool)) × (Int × Bool × List (Int × Int) × List (Int)))) fun x13=>
    self7 (x13.1,x13.2,IntKind.wrap .i64 (x6.2.2+(1:Int)))
   else some (x6.1,x6.2.1)) (((n,L),(num,true,[],[]),(0:Int)):Wb × An × Int)=some ((E.foldl gT ((n,L),true)).1,(num,(E.foldl gT ((n,L),true)).2,[],[])):=by
 have hm:maxLen=9223372036854775807:=by decide
 refine ig (fun (x:Wb × An × Int)=>∃i:Nat,i<=E.length/\x=(((E.take i).foldl gT ((n,L),true)).1,(num,((E.take i).foldl gT ((n,L),true)).2,[],[]),(i:Int))) (fun x=>E.length-x.2.2.toNat) (fun _=>_) (fun self x ⟨i,h1,h2⟩ hs => ?_) (n:=BIG) (x:=_) (by simp [BIG];omega) ⟨0,by omega,rfl⟩;subst h2;simp only;by_cases hi:i<E.length
 ·have l1:=WE (E.take i) ((n,L),true) hL;have hn:=hs (((E.take (i+1)).foldl gT ((n,L),true)).1,(num,((E.take (i+1)).foldl gT ((n,L),true)).2,[],[]),((i+1:Nat):Int)) ⟨i+1,hi,rfl⟩ (by simp;omega);rw [Cg _ _ hi] at hn;obtain ⟨_,t1,t3⟩:=ahU E[i] l1;generalize (E.take i).foldl gT ((n,L),true)=s at l1 hn t1 t3;obtain ⟨W,al⟩:=s;simp only at l1 t1 t3;unfold gT at hn;simp only [show ((i:Int)<(E.length:Int)) from by omega,decide_true,ah];rw [aB hi,aO hi,ae,bE (by omega),t1,ae];simp only at hn ⊢;cases hok:(WA W E[i]).2.2 with
  | true=>
   rw [hok] at hn;simp only [if_true,Bool.and_true] at hn;cases al<;>exact hn
  | false=>
   rw [hok] at hn;simp only [Bool.false_eq_true,if_false,Bool.and_false] at hn;cases al<;>exact hn
 ·simp only [show ¬((i:Int)<(E.length:Int)) from by omega,decide_false,aj];have:i=E.length:=by omega
  subst this;rw [List.take_length]
end
abbrev ShV:=Int × Int × List az × An
abbrev ObV:=Int × Int × List az × Int × Bool × List Ed × List Int × Int × Bool × List Ed × List Int × Int
def cz (n:Nat) (E:List Ed) (v:Int):Nat:=(labs n E).count ((labs n E).getD v.toNat 0)
theorem aca (n:Nat) (L:List az) (k:Int) (v:Int):cmp n L k v=cz n (aG L k) v:=rfl
def czL (n:Nat) (E:List Ed) (v:Int):List Nat:=(List.range n).filter fun i=>decide ((labs n E).getD i 0=(labs n E).getD v.toNat 0)
theorem FC (n:Nat) (E:List Ed) (v:Int):cz n E v=(czL n E v).length:=by
 unfold cz czL;rw [akI,bV]
theorem acb (n:Nat) (E:List Ed) (v:Int):(czL n E v).Nodup:=(List.nodup_range (n:=n)).sublist List.filter_sublist
theorem nI {n:Nat} {E:List Ed} (hE:kz n E) {v:Int} (hv:0<=v/\v<n) (i:Nat):i∈czL n E v↔i<n/\Con E v i:=by
 unfold czL;rw [List.mem_filter,List.mem_range,decide_eq_true_eq];constructor
 ·rintro ⟨h1,h2⟩;have hl:=iK hE;have:=hl.iff (getD_at (show i<(labs n E).length by rw [bV];omega)) (getD_at (show v.toNat<(labs n E).length by rw [bV];omega));rw [Int.toNat_of_nonneg hv.1] at this;exact ⟨h1,(this.1 h2).symm⟩
 ·rintro ⟨h1,h2⟩;have hl:=iK hE;have:=hl.iff (getD_at (show i<(labs n E).length by rw [bV];omega)) (getD_at (show v.toNat<(labs n E).length by rw [bV];omega));rw [Int.toNat_of_nonneg hv.1] at this;exact ⟨h1,this.2 h2.symm⟩
theorem aqK (n:Nat) (E:List Ed) (v:Int):cz n E v<=n:=by
 have:=List.count_le_length (a:=(labs n E).getD v.toNat 0) (l:=labs n E);rw [bV] at this;exact this
theorem kS {n:Nat} {E E':List Ed} (hE:kz n E) (hE':kz n E') {v w:Int} (hv:0<=v/\v<n) (hw:0<=w/\w<n) (h:∀x,Con E v x->Con E' w x):cz n E v<=cz n E' w:=by
 rw [FC,FC];refine jm _ _ (acb n E v) fun i hi => ?_
 obtain ⟨h1,h2⟩:=(nI hE hv i).1 hi;exact (nI hE' hw i).2 ⟨h1,h _ h2⟩
theorem ap8 {n:Nat} {E E':List Ed} (hE:kz n E) (hE':kz n E') {v u w:Int} (hv:0<=v/\v<n) (hu:0<=u/\u<n) (hw:0<=w/\w<n) (h1:∀x,Con E v x->Con E' w x) (h2:∀x,Con E u x->Con E' w x) (hd:¬Con E v u):cz n E v+cz n E u<=cz n E' w:=by
 rw [FC,FC,FC,<-bZ];refine jm _ _ (List.nodup_append.2 ⟨acb n E v,acb n E u,fun i hi j hj hij => ?_⟩) fun i hi => ?_
 ·subst hij;exact hd (((nI hE hv i).1 hi).2.trans ((nI hE hu i).1 hj).2.symm)
 ·rcases List.mem_append.1 hi with hi|hi
  ·obtain ⟨g1,g2⟩:=(nI hE hv i).1 hi;exact (nI hE' hw i).2 ⟨g1,h1 _ g2⟩
  ·obtain ⟨g1,g2⟩:=(nI hE hu i).1 hi;exact (nI hE' hw i).2 ⟨g1,h2 _ g2⟩
theorem ap9 {n:Nat} {E:List Ed} (hE:kz n E) {v:Int} (hv:0<=v/\v<n):1<=cz n E v:=by
 rw [FC];exact List.length_pos_of_mem ((nI hE hv v.toNat).2 ⟨by omega,by rw [Int.toNat_of_nonneg hv.1];exact .refl _⟩)
theorem fe {L:List az} {k:Int} {e:Ed}:e∈aG L k↔∃y,y∈L/\y.2.2.2=true/\k<=y.2.2.1/\(y.1,y.2.1)=e:=by
 unfold aG;simp only [List.mem_map,List.mem_filter,aP,decide_eq_true_eq,and_assoc]
theorem Om {E:List Ed} {e:Ed} {r o:Int} (h:(r=e.1/\o=e.2)\/(r=e.2/\o=e.1)) {u v:Int}:Con (E++[e]) u v↔Con E u v\/(Con E u r/\Con E o v)\/(Con E u o/\Con E r v):=by
 obtain ⟨a,b⟩:=e;rw [Con.snoc];rcases h with ⟨rfl,rfl⟩|⟨rfl,rfl⟩
 ·exact Iff.rfl
 ·constructor
  ·rintro (h|h|h)
   ·exact .inl h
   ·exact .inr (.inr h)
   ·exact .inr (.inl h)
  ·rintro (h|h|h)
   ·exact .inl h
   ·exact .inr (.inr h)
   ·exact .inr (.inl h)
structure Inv (n:Nat) (M:List az) (e:Ed) (k:Int):Prop where
 gr:fD n (gE M)=true
 lv:∀x,x∈M->0<=x.2.2.1/\x.2.2.1<=4
 nc:NoCyc (aG M 0)
 dis:¬Con (aG M 0) e.1 e.2
 hi:∀x,x∈M->x.2.2.2=false->k<x.2.2.1->Con (aG M x.2.2.1) x.1 x.2.1
 lo:∀x,x∈M->x.2.2.2=false->x.2.2.1<=k->Con (aG M x.2.2.1++[e]) x.1 x.2.1
 sz:∀j:Nat,1<=j->j<=4->∀f,f∈aG M j->cz n (aG M j) f.1<=n / 2 ^ j
 sz':∀j:Nat,(j:Int)<=k->cz n (aG M j++[e]) e.1<=n / 2 ^ j
theorem Inv.wok {n:Nat} {M:List az} {e:Ed} (h:Inv n M e (-1)):WOk n M:=
 ⟨h.gr,h.lv,h.nc,fun x hx ht=>by
  have hr:=dF ((il h.gr).1 (x.1,x.2.1) (List.mem_map.2 ⟨x,hx,rfl⟩))
  exact (iL h.gr _ ⟨hr.1,hr.2.1⟩ ⟨hr.2.2.1,hr.2.2.2.1⟩).2 (h.hi x hx ht (by have:=(h.lv x hx).1;omega)),h.sz⟩
section
variable {n:Nat} {M:List az} {e:Ed} {k:Nat} (hI:Inv n M e (k:Int)) (k3:k<=3) (ha:0<=e.1/\e.1<n) (hb:0<=e.2/\e.2<n)
 {r o:Int} (hro:(r=e.1/\o=e.2)\/(r=e.2/\o=e.1)) (hsm:cz n (aG M k) r<=cz n (aG M k) o)
 {s:Int->Bool} (hs:∀x:Int,0<=x/\x<n->(s x=true↔Con (aG M k) r x))
include hI
theorem Inv.rg {x:az} (hx:x∈M):(0<=x.1/\x.1<n)/\(0<=x.2.1/\x.2.1<n):=by
 have hr:=dF ((il hI.gr).1 (x.1,x.2.1) (List.mem_map.2 ⟨x,hx,rfl⟩));simp only at hr;omega
theorem Inv.rgE {j:Int} {f:Ed} (hf:f∈aG M j):(0<=f.1/\f.1<n)/\(0<=f.2/\f.2<n):=by
 obtain ⟨y,h1,_,_,rfl⟩:=fe.1 hf;exact hI.rg h1
theorem Inv.ein (j:Int):kz n (aG M j):=gF hI.gr j
include ha hb
theorem Inv.eine (j:Int):kz n (aG M j++[e]):=fun f hf=>by
 rcases List.mem_append.1 hf with h|h
 ·exact hI.ein j f h
 ·rw [List.mem_singleton.1 h];exact ⟨ha.1,ha.2,hb.1,hb.2⟩
include hro
theorem Inv.dis' (j:Int) (hj:0<=j):¬Con (aG M j) r o:=by
 intro h;have h0:=h.mono (qh (L:=M) hj);rcases hro with ⟨rfl,rfl⟩|⟨rfl,rfl⟩
 ·exact hI.dis h0
 ·exact hI.dis h0.symm
include hsm
theorem Inv.half:cz n (aG M k) r<=n / 2 ^ (k+1):=by
 have hr:0<=r/\r<n:=by rcases hro with ⟨rfl,rfl⟩|⟨rfl,rfl⟩<;>assumption
 have ho:0<=o/\o<n:=by rcases hro with ⟨rfl,rfl⟩|⟨rfl,rfl⟩<;>assumption
 have hsub:∀{x y:Int},Con (aG M k) x y->Con (aG M k++[e]) x y:=fun h=>h.mono fun f hf=>List.mem_append_left _ hf
 have hre:Con (aG M k++[e]) e.1 e.2:=.of (List.mem_append_right _ (List.mem_singleton.2 rfl));have h1:Con (aG M k++[e]) e.1 r:=by
  rcases hro with ⟨rfl,rfl⟩|⟨rfl,rfl⟩
  ·exact .refl _
  ·exact hre
 have h2:Con (aG M k++[e]) e.1 o:=by
  rcases hro with ⟨rfl,rfl⟩|⟨rfl,rfl⟩
  ·exact hre
  ·exact .refl _
 have:=ap8 (hI.ein k) (hI.eine ha hb k) hr ho ha (fun x hx=>h1.trans (hsub hx)) (fun x hx=>h2.trans (hsub hx)) (hI.dis' ha hb hro k (by omega));have h3:=hI.sz' k (by omega);rw [Nat.pow_succ,<-Nat.div_div_eq_div_mul];omega
end
def f1 (s:Int->Bool) (k:Int) (y:az):az:=if iW s k y=1 then iD k y else y
theorem u6 {s:Int->Bool} {k:Int} {y:az} (k3:k<=3) (c:y.2.2.2=true/\y.2.2.1=k/\s y.1=true):f1 s k y=(y.1,y.2.1,k+1,true):=by
 unfold f1 iW iD Ns;rw [if_pos c,if_pos rfl,if_neg (by omega),c.1]
theorem qL {s:Int->Bool} {k:Int} {y:az} (c:¬(y.2.2.2=true/\y.2.2.1=k/\s y.1=true)):f1 s k y=y:=by
 unfold f1 iW;rw [if_neg c,if_neg (by omega)]
end Go.Fw
