/- What the given functions come to. No conditions. -/
import Derived.Test.YtnjbmfecjooibaaGreatM0
set_option linter.unusedVariables false
set_option linter.unusedSimpArgs false
set_option linter.unusedSectionVars false
namespace Go.Fw
theorem w_iWebLabels (n:Nat) (L:List Led) (hL:L.length<=1048576):∃V,g_iWebLabels ((n:Int),L)=some (V,())/\(WOk n L->V=labs n (atE L 0))/\(¬WOk n L->V=[]):=by
 obtain ⟨b,b1,b2⟩:=w_iWebOk n L hL
 rw [Int.toNat_natCast] at b2
 show ∃V,f_iWebLabels BIG _=_/\_
 rw [e_iWebLabels,b1,Option.bind_some]
 cases b with
 | false=>exact ⟨[],rfl,fun h=>(by have:=b2.2 ⟨by omega,h⟩;cases this),fun _=>rfl⟩
 | true=>
  have h:=(b2.1 rfl).2
  have hg:=h.gr
  refine ⟨labs n (atE L 0),?_,fun _=>rfl,fun hn=>absurd h hn⟩
  simp only [Bool.not_true,cond_false]
  rw [h_ilabelsAt L 0 (gr_n hg).2 hL (gr_ein hg 0)]
  rfl
theorem cnt_eq (l:List Int) (c:Int):l.count c=((List.range l.length).filter fun i=>decide (l.getD i 0=c)).length:=by
 have h:l=(List.range l.length).map (fun i=>l.getD i 0):=by
  apply List.ext_getElem
  ·simp
  ·intro i h1 h2
   rw [List.getElem_map,List.getElem_range,List.getD_eq_getElem?_getD,List.getElem?_eq_getElem h1]
   rfl
 conv=>lhs;rw [h]
 rw [List.count,List.countP_map,List.countP_eq_length_filter]
 congr 1
section
variable {n:Nat} {L:List Led} (hg:grB n (gE L)=true)
include hg
theorem comp_len {k:Int} {Fs:List (Int × FT)} (hF:FoOk n (atE L k) Fs) {p:Int × FT} (hp:p∈Fs):(p.1::p.2.vs).length=cmp n L k p.1:=by
 have hE:=(gr_at hg k).1
 have hG:=hF.gt p hp
 have hp0:=hG.rg p.1 (List.mem_cons_self ..)
 unfold cmp
 rw [cnt_eq,labs_len]
 have hm:∀x:Int,x∈p.1::p.2.vs↔x∈((List.range n).filter fun i=>decide ((labs n (atE L k)).getD i 0=lbl n L k p.1)).map fun (i:Nat)=>(i:Int):=by
  intro x
  rw [List.mem_map]
  constructor
  ·intro hx
   have hr:=hG.rg x hx
   refine ⟨x.toNat,?_,by omega⟩
   rw [List.mem_filter,List.mem_range,decide_eq_true_eq]
   refine ⟨by omega,?_⟩
   exact (lbl_iff hg k hr hp0).2 ((hG.con hE x).1 hx).symm
  ·rintro ⟨y,hy,rfl⟩
   rw [List.mem_filter,List.mem_range,decide_eq_true_eq] at hy
   refine (hG.con hE _).2 ?_
   have:lbl n L k (y:Int)=lbl n L k p.1:=by
    unfold lbl
    rw [Int.toNat_natCast]
    exact hy.2
   exact ((lbl_iff hg k (by omega) hp0).1 this).symm
 have hn2:(((List.range n).filter fun i=>decide ((labs n (atE L k)).getD i 0=lbl n L k p.1)).map fun (i:Nat)=>(i:Int)).Nodup:=
  nodup_mp _ _ ((List.nodup_range (n:=n)).sublist List.filter_sublist) fun a _ b _ h=>by omega
 have l1:=nodup_sub _ _ hG.nd fun x hx=>(hm x).1 hx
 have l2:=nodup_sub _ _ hn2 fun x hx=>(hm x).2 hx
 rw [List.length_map] at l1 l2
 omega
theorem cmp_same {k:Int} {u v:Int} (hu:0<=u/\u<n) (hv:0<=v/\v<n) (h:Con (atE L k) u v):cmp n L k u=cmp n L k v:=by
 unfold cmp
 rw [(lbl_iff hg k hu hv).2 h]
theorem sz_iff {k:Int} {Fs:List (Int × FT)} (hF:FoOk n (atE L k) Fs) (B:Nat):(∀p,p∈Fs->1<(p.1::p.2.vs).length->(p.1::p.2.vs).length<=B)↔∀e,e∈atE L k->cmp n L k e.1<=B:=by
 have hE:=(gr_at hg k).1
 constructor
 ·intro h e he
  have hr:=edB_in (hE e he)
  obtain ⟨p,hp,hx⟩:=hF.cv e.1 hr.1 hr.2.1
  have hG:=hF.gt p hp
  have hc:=(hG.con hE e.1).1 hx
  have hx2:e.2∈p.1::p.2.vs:=(hG.con hE e.2).2 (.fwd hc he)
  have hne:e.1≠e.2:=by omega
  have hlen:1<(p.1::p.2.vs).length:=by
   have:=nodup_sub [e.1,e.2] (p.1::p.2.vs) (by simp [hne]) (fun y hy=>by
    simp only [List.mem_cons,List.not_mem_nil,or_false] at hy
    rcases hy with rfl|rfl
    ·exact hx
    ·exact hx2)
   simp only [List.length_cons,List.length_nil] at this ⊢
   omega
  have:=h p hp hlen
  rw [comp_len hg hF hp,cmp_same hg (hG.rg _ (List.mem_cons_self ..)) ⟨hr.1,hr.2.1⟩ hc] at this
  exact this
 ·intro h p hp hlen
  have hG:=hF.gt p hp
  have hp0:=hG.rg p.1 (List.mem_cons_self ..)
  obtain ⟨u,hu⟩:∃u,u∈p.2.vs:=by
   cases hv:p.2.vs with
   | nil=>rw [hv] at hlen;simp at hlen
   | cons u _=>exact ⟨u,List.mem_cons_self ..⟩
  have hne:u≠p.1:=by
   rintro rfl
   exact (List.nodup_cons.1 hG.nd).1 hu
  have hc:=(hG.con hE u).1 (List.mem_cons_of_mem _ hu)
  obtain ⟨x,y,d1,d2,d3⟩:=con_step (D:=fun z=>z=p.1) hc rfl hne
  subst d1
  rw [comp_len hg hF hp]
  rcases d3 with d3|d3
  ·exact h _ d3
  ·have hr:=edB_in (hE _ d3)
   simp only at hr
   rw [cmp_same hg hp0 ⟨hr.1,hr.2.1⟩ (.bwd (.refl _) d3)]
   exact h _ d3
def LvOk (n:Nat) (L:List Led) (k:Nat):Prop:=NoCyc (atE L k)/\(∀e,e∈atE L k->cmp n L k e.1<=n / 2 ^ k)/\∀x,x∈L->x.2.2.2=false->x.2.2.1=k->lbl n L k x.1=lbl n L k x.2.1
theorem wok_iff (hlv:∀x,x∈L->0<=x.2.2.1/\x.2.2.1<=4):WOk n L↔∀k:Nat,k<5->LvOk n L k:=by
 constructor
 ·intro h k hk
  refine ⟨h.nc.sub (atE_mono (by omega)),?_,fun x hx ht hl => ?_⟩
  ·by_cases h0:k=0
   ·subst h0
    intro e he
    have:cmp n L ((0:Nat):Int) e.1<=(labs n (atE L ((0:Nat):Int))).length:=List.count_le_length
    rw [labs_len] at this
    simpa using this
   ·exact h.sz k (by omega) (by omega)
  ·have:=h.un x hx ht
   rw [hl] at this
   exact this
 ·intro h
  refine ⟨hg,hlv,(h 0 (by omega)).1,fun x hx ht => ?_,fun k k1 k2=>(h k (by omega)).2.1⟩
  have hb:=hlv x hx
  obtain ⟨j,hj⟩:∃j:Nat,x.2.2.1=(j:Int):=⟨x.2.2.1.toNat,by omega⟩
  rw [hj]
  exact (h j (by omega)).2.2 x hx ht hj
end
theorem w_sWebOk (n:Int) (L:List Led) (hL:L.length<=1048576):∃b,g_sWebOk (n,L)=some (b,())/\(b=true↔0<=n/\WOk n.toNat L):=by
 have hm:maxLen=9223372036854775807:=by decide
 show ∃b,f_sWebOk BIG _=_/\_
 have hG:g_sGraphOf (n,L)=some ((n,gE L),()):=h_sGraphOf n L hL
 rw [e_sWebOk,hG,Option.bind_some,w_sGraphOk _ _ (by unfold gE;rw [List.length_map];exact hL),Option.bind_some]
 by_cases hg:grB n (gE L)=true
 case neg=>
  rw [show grB n (gE L)=false by simpa using hg]
  simp only [Bool.not_false,cond_true,Option.bind_some]
  refine ⟨false,rfl,⟨(fun h=>by cases h),fun ⟨h1,h2⟩ => ?_⟩⟩
  have:=h2.gr
  rw [Int.toNat_of_nonneg h1] at this
  exact absurd this hg
 obtain ⟨m,rfl⟩:∃m:Nat,n=(m:Int):=by
  have:1<=n:=by
   have h:=hg
   unfold grB at h
   rw [Bool.and_eq_true,inB_t] at h
   omega
  exact ⟨n.toNat,by omega⟩
 rw [hg,Int.toNat_natCast]
 obtain ⟨h1,h12⟩:=gr_n hg
 obtain ⟨hgE,hgn,hL6⟩:=gr_e hg
 simp only [Bool.not_true,cond_false]
 rw [hiLoop L (by omega) (fun x=>!inB x.2.2.1 0 4) false (fun self i y hy => ?_) (fun self=>by simp)]
 ·by_cases hA:L.any (fun x=>!inB x.2.2.1 0 4)=true
  ·rw [if_pos hA]
   refine ⟨false,rfl,⟨(fun h=>by cases h),fun ⟨_,h2⟩ => ?_⟩⟩
   obtain ⟨x,hx,hp⟩:=List.any_eq_true.1 hA
   rw [show inB x.2.2.1 0 4=true from inB_t.2 (h2.lv x hx)] at hp
   simp at hp
  ·rw [if_neg hA,Option.bind_some]
   have hlv:∀x,x∈L->0<=x.2.2.1/\x.2.2.1<=4:=by
    intro x hx
    have hp:¬(!inB x.2.2.1 0 4)=true:=fun h=>hA (List.any_eq_true.2 ⟨x,hx,h⟩)
    cases hb:inB x.2.2.1 0 4 with
    | true=>exact inB_t.1 hb
    | false=>rw [hb] at hp;simp at hp
   simp only
   refine loop_bind (x:=((m:Int),(0:Int))) (P:=fun o=>∃b,o=some (b,())/\(b=true↔0<=(m:Int)/\WOk m L)) (fun (s:Int × Int)=>∃k:Nat,s.2=(k:Int)/\k<=5/\s.1=((m / 2 ^ k:Nat):Int)/\∀j:Nat,j<k->LvOk m L j) (fun s=>5-s.2.toNat)
    (fun _ (b:Unit ⊕ Bool)=>(b = .inl ()/\∀k:Nat,k<5->LvOk m L k)\/(b = .inr false/\¬∀k:Nat,k<5->LvOk m L k)) (by simp [BIG]) ⟨0,rfl,by omega,by simp,fun j h=>by omega⟩ (fun self s hx hs => ?_) (fun b hb => ?_)
   ·obtain ⟨mo,kk⟩:=s
    obtain ⟨k,k1,k2,k3,k4⟩:=hx
    simp only at k1 k2 k3 k4 hs ⊢
    subst k1 k3
    by_cases hk:k<=4
    ·obtain ⟨hE,hEn,hEl⟩:=gr_at hg (k:Int)
     obtain ⟨r,b,r1,r2,r3⟩:=w_sForestAt (n:=m) L (k:Int) h1 h12 hL hE
     rw [decide_eq_true (by omega),cond_true,r1,Option.bind_some]
     cases b with
     | false=>
      simp only [Bool.not_false,cond_true,Option.bind_some]
      refine ⟨_,rfl,.inr ⟨rfl,fun h => ?_⟩⟩
      have:=r2.2 (h k (by omega)).1
      cases this
     | true=>
      obtain ⟨Fs,rfl,hF⟩:=r3 rfl
      have htl:=trs_len Fs
      have hsz:=hF.size
      have hnc:=r2.1 rfl
      simp only [Bool.not_true,cond_false]
      rw [hiLoop Fs (by omega) (fun p=>decide (1<(p.1::p.2.vs).length)&&decide (m / 2 ^ k<(p.1::p.2.vs).length)) false (fun self2 i y hy => ?_) (fun self2=>by simp [htl])]
      ·by_cases hT:Fs.any (fun p=>decide (1<(p.1::p.2.vs).length)&&decide (m / 2 ^ k<(p.1::p.2.vs).length))=true
       ·rw [if_pos hT]
        refine ⟨_,rfl,.inr ⟨rfl,fun h => ?_⟩⟩
        obtain ⟨p,hp,hq⟩:=List.any_eq_true.1 hT
        rw [Bool.and_eq_true,decide_eq_true_eq,decide_eq_true_eq] at hq
        have:=(sz_iff hg hF _).2 (h k (by omega)).2.1 p hp hq.1
        omega
       ·rw [if_neg hT,Option.bind_some]
        have hszk:=(sz_iff hg hF (m / 2 ^ k)).1 fun p hp hq=>by
         apply Classical.byContradiction
         intro hlt
         exact hT (List.any_eq_true.2 ⟨p,hp,by rw [Bool.and_eq_true,decide_eq_true_eq,decide_eq_true_eq];omega⟩)
        simp only
        rw [hiLoop L (by omega) (fun x=>!x.2.2.2&&(decide (x.2.2.1=(k:Int)) && !decide (lbl m L k x.1=lbl m L k x.2.1))) false (fun self3 i y hy => ?_) (fun self3=>by simp)]
        ·by_cases hU:L.any (fun x=>!x.2.2.2&&(decide (x.2.2.1=(k:Int)) && !decide (lbl m L k x.1=lbl m L k x.2.1)))=true
         ·rw [if_pos hU]
          refine ⟨_,rfl,.inr ⟨rfl,fun h => ?_⟩⟩
          obtain ⟨x,hx,hq⟩:=List.any_eq_true.1 hU
          simp only [Bool.and_eq_true,Bool.not_eq_true',decide_eq_true_eq,decide_eq_false_iff_not] at hq
          exact hq.2.2 ((h k (by omega)).2.2 x hx hq.1 hq.2.1)
         ·rw [if_neg hU,Option.bind_some]
          simp only
          rw [decide_eq_false (by omega),cond_false,Option.bind_some]
          have hdiv:IntKind.wrap .i64 (Int.tdiv ((m / 2 ^ k:Nat):Int) 2)=((m / 2 ^ (k+1):Nat):Int):=by
           have h0:m / 2 ^ k<=m:=Nat.div_le_self ..
           have h2:Int.tdiv ((m / 2 ^ k:Nat):Int) 2=((m / 2 ^ (k+1):Nat):Int):=by
            rw [Nat.pow_succ,<-Nat.div_div_eq_div_mul]
            rfl
           have h3:m / 2 ^ (k+1)<=m:=Nat.div_le_self ..
           have h4:(0:Int)<=((m / 2 ^ (k+1):Nat):Int):=Int.natCast_nonneg _
           rw [h2,wr (by omega) (by omega)]
          simp only
          rw [hdiv,wr1 (by omega)]
          refine hs _ ⟨k+1,rfl,by omega,rfl,fun j hj => ?_⟩ (by simp;omega)
          by_cases hjk:j=k
          ·subst hjk
           refine ⟨hnc,hszk,fun x hx ht hl => ?_⟩
           apply Classical.byContradiction
           intro hne
           refine hU (List.any_eq_true.2 ⟨x,hx,?_⟩)
           rw [ht,decide_eq_true hl,decide_eq_false hne]
           rfl
          ·exact k4 j (by omega)
        ·have hi:=(List.getElem?_eq_some_iff.1 hy).1
         have hye:=edB_in (hgE (y.1,y.2.1) (List.mem_map.2 ⟨y,List.mem_of_getElem? hy,rfl⟩))
         simp only at hye
         obtain ⟨ja,pa,a1,a2,a3⟩:=w_sTreeOf hE hF h12 h1 y.1 hye.1 hye.2.1
         obtain ⟨jb,pb,b1,b2,b3⟩:=w_sTreeOf hE hF h12 h1 y.2.1 hye.2.2.1 hye.2.2.2.1
         have hiff:((ja:Int)=(jb:Int))↔lbl m L k y.1=lbl m L k y.2.1:=by
          rw [lbl_iff hg (k:Int) ⟨hye.1,hye.2.1⟩ ⟨hye.2.2.1,hye.2.2.2.1⟩]
          constructor
          ·intro h
           have:ja=jb:=by omega
           subst this
           rw [a1,Option.some.injEq] at b1
           subst b1
           have hG:=hF.gt pa (List.mem_of_getElem? a1)
           exact ((hG.con hE _).1 a2).symm.trans ((hG.con hE _).1 b2)
          ·intro h
           have:=hF.idx hE a1 b1 a2 b2 h
           omega
         simp only [show ((i:Int)<(L.length:Int)) from by omega,decide_true,cond_true]
         rw [bnd_nat hi,hy,Option.bind_some,wr1 (by omega)]
         cases ht:y.2.2.2 with
         | true=>rfl
         | false=>
          simp only [Bool.not_false,cond_true,Bool.true_and]
          by_cases hl:y.2.2.1=(k:Int)
          ·rw [decide_eq_true hl,cond_true,a3,Option.bind_some,b3,Option.bind_some,Option.bind_some]
           by_cases hq:lbl m L k y.1=lbl m L k y.2.1
           ·rw [decide_eq_true hq,decide_eq_true (hiff.2 hq)];rfl
           ·rw [decide_eq_false hq,decide_eq_false (fun h=>hq (hiff.1 h))];rfl
          ·rw [decide_eq_false hl,cond_false];rfl
      ·have hi:=(List.getElem?_eq_some_iff.1 hy).1
       obtain ⟨V,v1,_,_,v4,_,v6⟩:=hF.verts h12 (List.mem_of_getElem? hy)
       rw [decide_eq_true (by omega),cond_true,bnd_nat (by omega),trs_get hy,Option.bind_some,v1,Option.bind_some,wr1 (by omega)]
       simp only
       rw [<-v4]
       by_cases c1:1<V.length
       ·rw [decide_eq_true (show ((1:Int)<(V.length:Int)) by omega),decide_eq_true c1,cond_true,Option.bind_some,Bool.true_and]
        by_cases c2:m / 2 ^ k<V.length
        ·rw [decide_eq_true (by omega),decide_eq_true c2];rfl
        ·rw [decide_eq_false (by omega),decide_eq_false c2];rfl
       ·rw [decide_eq_false (show ¬((1:Int)<(V.length:Int)) by omega),decide_eq_false c1];rfl
    ·rw [decide_eq_false (by omega),cond_false]
     exact ⟨_,rfl,.inl ⟨rfl,fun j hj=>k4 j (by omega)⟩⟩
   ·rcases hb with ⟨rfl,h⟩|⟨rfl,h⟩
    ·exact ⟨true,rfl,⟨fun _=>⟨by omega,(wok_iff hg hlv).2 h⟩,fun _=>rfl⟩⟩
    ·exact ⟨false,rfl,⟨(fun h=>by cases h),fun ⟨_,h2⟩=>absurd ((wok_iff hg hlv).1 h2) h⟩⟩
 ·have hi:=(List.getElem?_eq_some_iff.1 hy).1
  simp only [show ((i:Int)<(L.length:Int)) from by omega,decide_true,cond_true]
  rw [bnd_nat hi,hy,Option.bind_some,h_sl01In',Option.bind_some,wr1 (by omega)]
  cases inB y.2.2.1 0 4<;>rfl
theorem w_sWebLabels (n:Nat) (L:List Led) (hL:L.length<=1048576):∃V,g_sWebLabels ((n:Int),L)=some (V,())/\(WOk n L->V=labs n (atE L 0))/\(¬WOk n L->V=[]):=by
 have hm:maxLen=9223372036854775807:=by decide
 obtain ⟨b,b1,b2⟩:=w_sWebOk n L hL
 rw [Int.toNat_natCast] at b2
 show ∃V,f_sWebLabels BIG _=_/\_
 rw [e_sWebLabels,b1,Option.bind_some]
 cases b with
 | false=>exact ⟨[],rfl,fun h=>(by have:=b2.2 ⟨by omega,h⟩;cases this),fun _=>rfl⟩
 | true=>
  have h:=(b2.1 rfl).2
  have hg:=h.gr
  obtain ⟨h1,h12⟩:=gr_n hg
  obtain ⟨hE,hEn,hEl⟩:=gr_at hg 0
  obtain ⟨r,b',r1,r2,r3⟩:=w_sForestAt (n:=n) L 0 h1 h12 hL hE
  obtain ⟨Fs,rfl,hF⟩:=r3 (r2.2 h.nc)
  have hll:=labs_len n (atE L 0)
  have hlab:=labs_ok (gr_ein hg 0)
  refine ⟨labs n (atE L 0),?_,fun _=>rfl,fun hn=>absurd h hn⟩
  simp only [Bool.not_true,cond_false]
  rw [r1,Option.bind_some]
  simp only
  refine loop_bind (x:=([],(0:Int))) (P:=fun o=>o=some (labs n (atE L 0),())) (fun (s:List Int × Int)=>∃i:Nat,s.2=i/\i<=n/\s.1=(labs n (atE L 0)).take i) (fun s=>n-s.2.toNat)
   (fun _ (V:List Int)=>V=labs n (atE L 0)) (by simp [BIG];omega) ⟨0,rfl,by omega,by simp⟩ (fun self s hx hs => ?_) (fun V hV=>by rw [hV])
  obtain ⟨s,j⟩:=s
  obtain ⟨i,k1,k2,k3⟩:=hx
  simp only at k1 k2 k3 hs ⊢
  subst k1 k3
  by_cases hi:i<n
  ·obtain ⟨j,p,p1,p2,p3⟩:=w_sTreeOf hE hF h12 h1 (i:Int) (by omega) (by omega)
   have hjl:=(List.getElem?_eq_some_iff.1 p1).1
   have hpm:=List.mem_of_getElem? p1
   have hG:=hF.gt p hpm
   obtain ⟨V,v1,_,_,v4,v5,v6⟩:=hF.verts h12 hpm
   have htl:=trs_len Fs
   rw [decide_eq_true (by omega),cond_true,p3,Option.bind_some,bnd_nat (by omega),trs_get p1,Option.bind_some,v1,Option.bind_some]
   have hV0:0<V.length:=by rw [v4];simp
   rw [bnd_ok (by omega) (by simp only;omega),show Int.toNat 0=0 from rfl]
   simp only
   rw [v5,Option.bind_some,decide_eq_true (by simp only [List.length_take,List.length_cons,List.length_nil];omega),cond_true,wr1 (by omega)]
   have hgi:=List.getElem?_eq_getElem (show i<(labs n (atE L 0)).length by omega)
   have hmin:=hlab.2 i _ hgi
   have hc:Con (atE L 0) i p.1:=((hG.con hE _).1 p2).symm
   have e1:(labs n (atE L 0))[i]=p.1:=by
    have l1:=hmin.2.2 p.1 (hG.rg _ (List.mem_cons_self ..)).1 hc
    have l2:=hF.mn p hpm _ ((hG.con hE _).2 (hc.symm.trans hmin.1))
    omega
   refine hs _ ⟨i+1,rfl,by omega,?_⟩ (by simp;omega)
   simp only
   rw [List.take_succ_eq_append_getElem (by omega),e1]
  ·rw [decide_eq_false (by omega),cond_false]
   have:i=n:=by omega
   subst this
   exact ⟨_,rfl,by rw [List.take_of_length_le (by omega)]⟩
theorem h_ShardOk (x0 x1:Int) (x2:List Led) (y:An) (h2:x2.length<=1048576) (h5:y.2.2.1.length<=1048576) (h6:y.2.2.2.length<=1048576) :
  ∃b,g_iShardOk (x0,x1,x2,y)=some (b,())/\g_sShardOk (x0,x1,x2,y)=some (b,())/\(b=true↔(1<=x0/\x0<=3)/\0<=x1/\WOk x1.toNat x2/\(blA y=true\/ansB x1 y=true/\y.2.2.2=labs x1.toNat (atE x2 0))):=by
 have hm:maxLen=9223372036854775807:=by decide
 show ∃b,f_iShardOk BIG _=_/\f_sShardOk BIG _=_/\_
 rw [e_iShardOk,e_sShardOk,h_iin',h_sl01In',Option.bind_some,Option.bind_some]
 by_cases h0:inB x0 1 3=true
 case neg=>
  rw [show inB x0 1 3=false by simpa using h0]
  exact ⟨false,rfl,rfl,⟨(fun h=>by cases h),fun h=>absurd (inB_t.2 h.1) h0⟩⟩
 rw [h0]
 obtain ⟨b,b1,b2⟩:=w_iWebOk x1 x2 h2
 obtain ⟨b',b1',b2'⟩:=w_sWebOk x1 x2 h2
 have hbb:b'=b:=by
  cases b<;>cases b'<;>simp_all
 subst hbb
 simp only [Bool.not_true,cond_false,b1,b1',Option.bind_some]
 cases b' with
 | false=>
  refine ⟨false,rfl,rfl,⟨(fun h=>by cases h),fun h => ?_⟩⟩
  have:=b2.2 ⟨h.2.1,h.2.2.1⟩
  cases this
 | true=>
  obtain ⟨n0,hw⟩:=b2.1 rfl
  simp only [Bool.not_true,cond_false]
  rw [h_inoAnswer,h_sl10Blank _ (by omega) (by omega),Option.bind_some,Option.bind_some]
  cases hb:blA y with
  | true=>exact ⟨true,rfl,rfl,⟨fun _=>⟨inB_t.1 h0,n0,hw,.inl rfl⟩,fun _=>rfl⟩⟩
  | false=>
   simp only [cond_false]
   rw [h_iAnswerOk _ _ h5 h6,h_sAnswerOk _ _ h5 h6,Option.bind_some,Option.bind_some]
   cases ha:ansB x1 y with
   | false=>exact ⟨false,rfl,rfl,⟨(fun h=>by cases h),fun h=>by
     rcases h.2.2.2 with h|⟨h,_⟩<;>cases h⟩⟩
   | true=>
    obtain ⟨m,rfl⟩:∃m:Nat,x1=(m:Int):=⟨x1.toNat,by omega⟩
    rw [Int.toNat_natCast] at hw ⊢
    obtain ⟨V,v1,v2,_⟩:=w_iWebLabels m x2 h2
    obtain ⟨V',v1',v2',_⟩:=w_sWebLabels m x2 h2
    rw [v2 hw] at v1
    rw [v2' hw] at v1'
    simp only [cond_true]
    rw [v1,v1',Option.bind_some,Option.bind_some,w_isameInts _ _ (by omega),h_sl05SameInts _ _ (by omega),Option.bind_some,Option.bind_some]
    refine ⟨_,rfl,rfl,?_⟩
    rw [decide_eq_true_eq]
    exact ⟨fun h=>⟨inB_t.1 h0,n0,hw,.inr ⟨by trivial,h⟩⟩,fun h=>by
     rcases h.2.2.2 with h|⟨_,h⟩
     ·cases h
     ·exact h⟩
def lkw (L:List Led) (p:Led->Nat) (rz hz:Led->Led):List Led × Option (Nat × Led):=
 if h:L.findIdx (fun y=>decide (p y=2))<L.length then
  ((L.take (L.findIdx fun y=>decide (p y=2))).map (fun y=>if p y=1 then rz y else y)++hz L[L.findIdx fun y=>decide (p y=2)]::L.drop (L.findIdx (fun y=>decide (p y=2))+1),some (L.findIdx (fun y=>decide (p y=2)),hz L[L.findIdx fun y=>decide (p y=2)]))
 else (L.map fun y=>if p y=1 then rz y else y,none)
theorem set_mid {α:Type} (a:List α) (x y:α) (b:List α):(a++x::b).set a.length y=a++y::b:=by
 rw [List.set_append_right _ _ (Nat.le_refl _),Nat.sub_self];rfl
theorem bind_of {A B:Type} {o:Option A} {v:A} (h:o=some v) (f:A->Option B):Option.bind o f=f v:=by rw [h];rfl
theorem lkLoop {X B:Type} (L:List Led) (hl:L.length<=1048576) (p:Led->Nat) (rz hz:Led->Led) (mk:List Led->Nat->X) (ix:X->Nat) (hix:∀l i,ix (mk l i)=i) (fin:List Led->B) (hit:List Led->Nat->Led->B) {F:(X->Option B)->X->Option B}
  (hF:∀self (out:List Led) (i:Nat) y,out.length=L.length->L[i]?=some y->out[i]?=some y->F self (mk out i)=if p y=2 then some (hit (out.set i (hz y)) i (hz y)) else self (mk (out.set i (if p y=1 then rz y else y)) (i+1)))
  (hE:∀self (out:List Led),out.length=L.length->F self (mk out L.length)=some (fin out)) :
  loopT BIG F (mk L 0)=some (match (lkw L p rz hz).2 with|none=>fin (lkw L p rz hz).1|some (j,y)=>hit (lkw L p rz hz).1 j y):=by
 refine loop_eq (fun x=>∃i:Nat,i<=L.length/\x=mk ((L.take i).map (fun y=>if p y=1 then rz y else y)++L.drop i) i/\∀j y,j<i->L[j]?=some y->p y≠2) (fun x=>L.length-ix x) (fun _=>_) (fun self x ⟨i,h1,h2,h3⟩ hs => ?_) (n:=BIG) (x:=mk L 0) (by rw [hix];simp [BIG];omega) ⟨0,by omega,by simp,fun j y h=>by omega⟩
 subst h2
 have hlen:((L.take i).map (fun y=>if p y=1 then rz y else y)++L.drop i).length=L.length:=by
  simp only [List.length_append,List.length_map,List.length_take,List.length_drop];omega
 have htl:((L.take i).map (fun y=>if p y=1 then rz y else y)).length=i:=by
  simp only [List.length_map,List.length_take];omega
 by_cases hi:i<L.length
 ·have hy:=List.getElem?_eq_getElem hi
  have hd:L.drop i=L[i]::L.drop (i+1):=List.drop_eq_getElem_cons hi
  have ho:((L.take i).map (fun y=>if p y=1 then rz y else y)++L.drop i)[i]?=some L[i]:=by
   rw [List.getElem?_append_right (by omega),htl,Nat.sub_self,hd];rfl
  have hset:∀z,((L.take i).map (fun y=>if p y=1 then rz y else y)++L.drop i).set i z=(L.take i).map (fun y=>if p y=1 then rz y else y)++z::L.drop (i+1):=by
   intro z
   have:=set_mid ((L.take i).map (fun y=>if p y=1 then rz y else y)) L[i] z (L.drop (i+1))
   rw [htl] at this
   rw [hd];exact this
  rw [hF self _ i L[i] hlen hy ho]
  by_cases hp:p L[i]=2
  ·rw [if_pos hp,hset]
   have hfi:L.findIdx (fun y=>decide (p y=2))=i:=by
    rw [List.findIdx_eq hi]
    refine ⟨by simpa using hp,fun j hj => ?_⟩
    have:=h3 j L[j] hj (List.getElem?_eq_getElem (by omega))
    simpa using this
   unfold lkw
   rw [dif_pos (by rw [hfi];exact hi)]
   simp only [hfi]
  ·rw [if_neg hp]
   refine hs _ ⟨i+1,hi,?_,fun j y hj hjy => ?_⟩ (by rw [hix,hix];omega)
   ·rw [hset,List.take_succ_eq_append_getElem hi,List.map_append,List.append_assoc]
    rfl
   ·by_cases hji:j=i
    ·subst hji
     rw [hy] at hjy
     cases hjy
     exact hp
    ·exact h3 j y (by omega) hjy
 ·have hin:i=L.length:=by omega
  subst hin
  rw [hE self _ hlen]
  have hno:¬L.findIdx (fun y=>decide (p y=2))<L.length:=by
   intro hlt
   have h1:=List.findIdx_getElem (w:=hlt)
   have:=h3 _ _ hlt (List.getElem?_eq_getElem hlt)
   exact this (by simpa using h1)
  unfold lkw
  rw [dif_neg hno]
  simp
def upL (k:Int):Int:=if 4<k+1 then 4 else k+1
def rzL (k:Int) (x:Led):Led:=(x.1,x.2.1,upL k,x.2.2.2)
def hzL (x:Led):Led:=(x.1,x.2.1,x.2.2.1,true)
def p1L (s:Int->Bool) (k:Int) (x:Led):Nat:=if x.2.2.2=true/\x.2.2.1=k/\s x.1=true then 1 else 0
def p2L (s:Int->Bool) (k:Int) (x:Led):Nat:=if x.2.2.2=true\/x.2.2.1≠k\/(s x.1=false/\s x.2.1=false) then 0 else if s x.1=true/\s x.2.1=true then 1 else 2
def sch (n:Nat) (L:List Led) (e:Ed) (k:Int):List Led × Option (Nat × Led):=
 let c:=if cmp n L k e.2<cmp n L k e.1 then lbl n L k e.2 else lbl n L k e.1
 lkw ((lkw L (p1L (fun x=>decide (lbl n L k x=c)) k) (rzL k) hzL).1) (p2L (fun x=>decide (lbl n L k x=c)) k) (rzL k) hzL
theorem lkw_no {L:List Led} {p:Led->Nat} {rz hz:Led->Led} (h:∀y,p y≠2):lkw L p rz hz=(L.map fun y=>if p y=1 then rz y else y,none):=by
 unfold lkw
 rw [dif_neg]
 intro hlt
 have h1:=List.findIdx_getElem (w:=hlt)
 exact h _ (by simpa using h1)
theorem lkw_len (L:List Led) (p:Led->Nat) (rz hz:Led->Led):(lkw L p rz hz).1.length=L.length:=by
 unfold lkw
 split
 ·rename_i h
  simp only [List.length_append,List.length_map,List.length_take,List.length_cons,List.length_drop]
  omega
 ·simp
theorem p1_ne (s:Int->Bool) (k:Int):∀y,p1L s k y≠2:=fun y=>by unfold p1L;split<;>omega
theorem lkw_gE {L:List Led} {p:Led->Nat} {rz hz:Led->Led} (h1:∀y,((rz y).1,(rz y).2.1)=(y.1,y.2.1)) (h2:∀y,((hz y).1,(hz y).2.1)=(y.1,y.2.1)):gE (lkw L p rz hz).1=gE L:=by
 unfold lkw gE
 split
 ·rename_i h
  have:L=L.take (L.findIdx fun y=>decide (p y=2))++L[L.findIdx fun y=>decide (p y=2)]::L.drop (L.findIdx (fun y=>decide (p y=2))+1):=by
   conv=>lhs;rw [<-List.take_append_drop (L.findIdx fun y=>decide (p y=2)) L,List.drop_eq_getElem_cons h]
  conv=>rhs;rw [this]
  simp only [List.map_append,List.map_cons,List.map_map,h2]
  congr 1
  apply List.map_congr_left
  intro y _
  simp only [Function.comp]
  split
  ·exact h1 y
  ·rfl
 ·rw [List.map_map]
  apply List.map_congr_left
  intro y _
  simp only [Function.comp]
  split
  ·exact h1 y
  ·rfl
theorem lkw_trE {L:List Led} {p:Led->Nat} {rz hz:Led->Led} (h1:∀y,((rz y).1,(rz y).2.1)=(y.1,y.2.1)) (h3:∀y,(rz y).2.2.2=y.2.2.2) (hn:(lkw L p rz hz).2=none):trE (lkw L p rz hz).1=trE L:=by
 unfold lkw at hn ⊢
 split at hn
 ·cases hn
 ·rename_i h
  rw [dif_neg h]
  unfold trE
  simp only [List.filter_map,List.map_map]
  have hc:((fun x:Led=>x.2.2.2) ∘ fun y=>if p y=1 then rz y else y)=fun x:Led=>x.2.2.2:=by
   funext y
   simp only [Function.comp]
   split
   ·exact h3 y
   ·rfl
  rw [hc]
  apply List.map_congr_left
  intro y _
  simp only [Function.comp]
  split
  ·exact h1 y
  ·rfl
theorem wrk {k:Int} (h0:0<=k) (h4:k<=4):IntKind.wrap .i64 (k+1)=k+1:=wr (by omega) (by omega)
section
variable {n:Nat} {L:List Led} (hg:grB n (gE L)=true) {e:Ed} (ha:0<=e.1/\e.1<n) (hb:0<=e.2/\e.2<n) {k:Int} (k0:0<=k) (k4:k<=4)
include hg ha hb k0 k4
theorem in_rg {x:Led} (hx:x∈L):(0<=x.1/\x.1<n)/\(0<=x.2.1/\x.2.1<n):=by
 have:=edB_in ((gr_e hg).1 (x.1,x.2.1) (List.mem_map.2 ⟨x,hx,rfl⟩))
 simp only at this
 omega
theorem w_look:g_iWeb_look (((n:Int),L),e,k)=some ((match (sch n L e k).2 with|none=>(((0:Int),(0:Int),false),((n:Int),(sch n L e k).1))|some (_,y)=>((y.1,y.2.1,true),((n:Int),(sch n L e k).1)))):=by
 have hm:maxLen=9223372036854775807:=by decide
 obtain ⟨h1,h12⟩:=gr_n hg
 obtain ⟨hgE,hgn,hL6⟩:=gr_e hg
 have hll:=labs_len n (atE L k)
 show f_iWeb_look BIG _=_
 rw [e_iWeb_look,h_ilabelsAt L k h12 (by omega) (gr_ein hg k),Option.bind_some]
 simp only
 have gA:∀{B:Type} {q:Nat->Option B} {v:Int},0<=v/\v<n->bnd (labs n (atE L k)).length v q=q v.toNat:=fun h=>bnd_ok h.1 (by omega)
 have gV:∀{v:Int},0<=v/\v<n->(labs n (atE L k))[v.toNat]?=some (lbl n L k v):=fun h=>getD_at (by omega)
 rw [gA ha,gV ha,Option.bind_some,gA hb,gV hb,Option.bind_some,h_isizes _ _ (by omega),Option.bind_some,gA ha,gV ha,Option.bind_some,h_isizes _ _ (by omega),Option.bind_some]
 have hsel:(bif decide (((labs n (atE L k)).count (lbl n L k e.2):Int)<((labs n (atE L k)).count (lbl n L k e.1):Int)) then bnd (labs n (atE L k)).length e.2 fun n9=>Option.bind (labs n (atE L k))[n9]? fun y10=>some y10 else some (lbl n L k e.1))=some (if cmp n L k e.2<cmp n L k e.1 then lbl n L k e.2 else lbl n L k e.1):=by
  show (bif decide ((cmp n L k e.2:Int)<(cmp n L k e.1:Int)) then _ else _)=_
  by_cases hc:cmp n L k e.2<cmp n L k e.1
  ·rw [decide_eq_true (by omega),cond_true,gA hb,gV hb,if_pos hc];rfl
  ·rw [decide_eq_false (by omega),cond_false,if_neg hc]
 rw [hsel,Option.bind_some]
 unfold sch
 simp only
 generalize (if cmp n L k e.2<cmp n L k e.1 then lbl n L k e.2 else lbl n L k e.1)=c
 rw [wrk k0 k4]
 have hup:(if (4:Int)<k+1 then (4:Int) else k+1)=upL k:=rfl
 simp only [hup]
 have e1:=lkLoop L (by omega) (p1L (fun x=>decide (lbl n L k x=c)) k) (rzL k) hzL (fun (l:List Led) (i:Nat)=>((((n:Int),l),(i:Int)):(Int × List Led) × Int)) (fun x=>x.2.toNat) (fun _ _=>by simp) (fun l=>((n:Int),l)) (fun l _ _=>((n:Int),l)) (F:=fun self13 x12=>
  bif decide (x12.2<(L.length:Int)) then
   Option.bind (bnd x12.1.2.length x12.2 fun n14=>
    Option.bind (Option.bind x12.1.2[n14]? fun y15=>
     bif y15.2.2.2 then
      Option.bind x12.1.2[n14]? fun y16=>
      bif decide (y16.2.2.1=k) then
       Option.bind x12.1.2[n14]? fun y17=>
       bnd (labs n (atE L k)).length y17.1 fun n18=>
       Option.bind (labs n (atE L k))[n18]? fun y19=>
       some (decide (y19=c))
      else some false
     else some false:Option (Bool)) fun x20=>
    bif x20 then
     Option.bind x12.1.2[n14]? fun y21=>
     some (x12.1.1,x12.1.2.set n14 (y21.1,y21.2.1,upL k,y21.2.2.2))
    else some x12.1:Option ((Int × List (Int × Int × Int × Bool)))) fun x22=>
   self13 (x22,IntKind.wrap .i64 (x12.2+(1:Int)))
  else some x12.1) (fun self out i y ho hy hoy => ?_) (fun self out ho=>by simp)
 ·rw [lkw_no (p1_ne _ _)] at e1
  simp only at e1
  refine (bind_of e1 _).trans ?_
  rw [lkw_no (p1_ne _ _)]
  simp only
  have hmr:∀y,y∈L.map (fun y=>if p1L (fun x=>decide (lbl n L k x=c)) k y=1 then rzL k y else y)->(0<=y.1/\y.1<n)/\(0<=y.2.1/\y.2.1<n):=by
   intro y hy
   obtain ⟨z,hz,rfl⟩:=List.mem_map.1 hy
   have:=in_rg hg ha hb k0 k4 hz
   split
   ·exact this
   ·exact this
  have hl1:(L.map (fun y=>if p1L (fun x=>decide (lbl n L k x=c)) k y=1 then rzL k y else y)).length<=1048576:=by rw [List.length_map];omega
  generalize L.map (fun y=>if p1L (fun x=>decide (lbl n L k x=c)) k y=1 then rzL k y else y)=M at hmr hl1
  have e2:=lkLoop M hl1 (p2L (fun x=>decide (lbl n L k x=c)) k) (rzL k) hzL (fun (l:List Led) (i:Nat)=>((((n:Int),l),((0:Int),(0:Int)),(i:Int)):(Int × List Led) × (Int × Int) × Int)) (fun x=>x.2.2.toNat) (fun _ _=>by simp) (fun l=>Sum.inl (((n:Int),l),((0:Int),(0:Int)))) (fun l _ y=>Sum.inr ((y.1,y.2.1),true,((n:Int),l))) (F:=fun self25 x24=>
  bif decide (x24.2.2<(M.length:Int)) then
   Option.bind (bnd x24.1.2.length x24.2.2 fun n26=>
    Option.bind (Option.bind x24.1.2[n26]? fun y27=>
     bif y27.2.2.2 then
      some true
     else Option.bind x24.1.2[n26]? fun y28=>
     bif !decide (y28.2.2.1=k) then
      some true
     else Option.bind x24.1.2[n26]? fun y29=>
     bnd (labs n (atE L k)).length y29.1 fun n30=>
     Option.bind (labs n (atE L k))[n30]? fun y31=>
     bif !decide (y31=c) then
      Option.bind x24.1.2[n26]? fun y32=>
      bnd (labs n (atE L k)).length y32.2.1 fun n33=>
      Option.bind (labs n (atE L k))[n33]? fun y34=>
      some (!decide (y34=c))
     else some false:Option (Bool)) fun x35=>
    bif x35 then
     some (Sum.inl (x24.1,x24.2.1))
    else Option.bind x24.1.2[n26]? fun y36=>
    bnd (labs n (atE L k)).length y36.1 fun n37=>
    Option.bind (labs n (atE L k))[n37]? fun y38=>
    Option.bind x24.1.2[n26]? fun y39=>
    bnd (labs n (atE L k)).length y39.2.1 fun n40=>
    Option.bind (labs n (atE L k))[n40]? fun y41=>
    bif !decide (y38=y41) then
     Option.bind x24.1.2[n26]? fun y42=>
     Option.bind (x24.1.2.set n26 (y42.1,y42.2.1,y42.2.2.1,true))[n26]? fun y43=>
     Option.bind (x24.1.2.set n26 (y42.1,y42.2.1,y42.2.2.1,true))[n26]? fun y44=>
     some (Sum.inr ((y43.1,y44.2.1),true,(x24.1.1,x24.1.2.set n26 (y42.1,y42.2.1,y42.2.2.1,true))))
    else Option.bind x24.1.2[n26]? fun y45=>
    some (Sum.inl ((x24.1.1,x24.1.2.set n26 (y45.1,y45.2.1,upL k,y45.2.2.2)),x24.2.1)):Option (((Int × List (Int × Int × Int × Bool)) × (Int × Int)) ⊕ ((Int × Int) × Bool × (Int × List (Int × Int × Int × Bool))))) fun y=>match y with
   | .inl x46=>
    self25 (x46.1,x46.2,IntKind.wrap .i64 (x24.2.2+(1:Int)))
   | .inr x46=>
    some (Sum.inr (x46.1,x46.2.1,x46.2.2))
  else some (Sum.inl (x24.1,x24.2.1))) (fun self out i y ho hy hoy => ?_) (fun self out ho=>by simp)
  ·refine (bind_of e2 _).trans ?_
   cases (lkw M (p2L (fun x=>decide (lbl n L k x=c)) k) (rzL k) hzL).2 with
   | none=>rfl
   | some r=>rfl
  ·have hi:=(List.getElem?_eq_some_iff.1 hy).1
   obtain ⟨r1,r2⟩:=hmr y (List.mem_of_getElem? hy)
   have hso:∀z,(out.set i z)[i]?=some z:=fun z=>List.getElem?_set_self (by omega)
   simp only [show ((i:Int)<(M.length:Int)) from by omega,decide_true,cond_true]
   rw [bnd_nat (by omega),wr1 (by omega)]
   simp only [hoy,Option.bind_some,gA r1,gV r1,gA r2,gV r2,hso]
   cases ht:y.2.2.2 with
   | true=>
    have hp:p2L (fun x=>decide (lbl n L k x=c)) k y=0:=by unfold p2L;rw [if_pos (.inl ht)]
    rw [hp,if_neg (by omega),if_neg (by omega),set_self hoy]
    rfl
   | false=>
    simp only [cond_false]
    by_cases hk:y.2.2.1=k
    ·simp only [decide_eq_true hk,Bool.not_true,cond_false]
     by_cases hA:lbl n L k y.1=c
     ·simp only [decide_eq_true hA,Bool.not_true,cond_false,Option.bind_some]
      by_cases hB:lbl n L k y.2.1=c
      ·have hp:p2L (fun x=>decide (lbl n L k x=c)) k y=1:=by
        unfold p2L
        rw [if_neg (by simp [ht,hk,hA]),if_pos (by simp [hA,hB])]
       rw [hp,if_neg (by omega),if_pos rfl,hA,hB]
       simp only [decide_true,Bool.not_true,cond_false,Option.bind_some]
       unfold rzL
       rw [ht]
      ·have hp:p2L (fun x=>decide (lbl n L k x=c)) k y=2:=by
        unfold p2L
        rw [if_neg (by simp [ht,hk,hA]),if_neg (by simp [hB])]
       rw [hp,if_pos rfl,hA]
       simp only [decide_eq_false (fun h=>hB (Eq.symm h):¬c=lbl n L k y.2.1),Bool.not_false,cond_true,Option.bind_some]
       rfl
     ·simp only [decide_eq_false hA,Bool.not_false,cond_true]
      by_cases hB:lbl n L k y.2.1=c
      ·have hp:p2L (fun x=>decide (lbl n L k x=c)) k y=2:=by
        unfold p2L
        rw [if_neg (by simp [ht,hk,hB]),if_neg (by simp [hA])]
       rw [hp,if_pos rfl,hB]
       simp only [decide_true,Bool.not_true,cond_false,Option.bind_some,decide_eq_false hA,Bool.not_false,cond_true]
       rfl
      ·have hp:p2L (fun x=>decide (lbl n L k x=c)) k y=0:=by
        unfold p2L
        rw [if_pos (.inr (.inr ⟨decide_eq_false hA,decide_eq_false hB⟩))]
       rw [hp,if_neg (by omega),if_neg (by omega),set_self hoy]
       simp only [decide_eq_false hB,Bool.not_false,cond_true,Option.bind_some]
    ·have hp:p2L (fun x=>decide (lbl n L k x=c)) k y=0:=by unfold p2L;rw [if_pos (.inr (.inl hk))]
     rw [hp,if_neg (by omega),if_neg (by omega),set_self hoy]
     simp only [decide_eq_false hk,Bool.not_false,cond_true,Option.bind_some]
 ·have hi:=(List.getElem?_eq_some_iff.1 hy).1
  obtain ⟨r1,r2⟩:=in_rg hg ha hb k0 k4 (List.mem_of_getElem? hy)
  simp only [show ((i:Int)<(L.length:Int)) from by omega,decide_true,cond_true]
  rw [bnd_nat (by omega),wr1 (by omega),if_neg (p1_ne _ _ _)]
  simp only [hoy,Option.bind_some,gA r1,gV r1]
  cases ht:y.2.2.2 with
  | false=>
   have hp:p1L (fun x=>decide (lbl n L k x=c)) k y=0:=by unfold p1L;rw [if_neg (by simp [ht])]
   rw [hp,if_neg (by omega),set_self hoy]
   rfl
  | true=>
   simp only [cond_true]
   by_cases hk:y.2.2.1=k
   ·simp only [decide_eq_true hk,cond_true]
    by_cases hA:lbl n L k y.1=c
    ·have hp:p1L (fun x=>decide (lbl n L k x=c)) k y=1:=by unfold p1L;rw [if_pos ⟨ht,hk,decide_eq_true hA⟩]
     rw [hp,if_pos rfl]
     simp only [decide_eq_true hA,cond_true,Option.bind_some]
     unfold rzL
     rw [ht]
    ·have hp:p1L (fun x=>decide (lbl n L k x=c)) k y=0:=by unfold p1L;rw [if_neg (by simp [hA])]
     rw [hp,if_neg (by omega),set_self hoy]
     simp only [decide_eq_false hA,cond_false,Option.bind_some]
   ·have hp:p1L (fun x=>decide (lbl n L k x=c)) k y=0:=by unfold p1L;rw [if_neg (by simp [hk])]
    rw [hp,if_neg (by omega),set_self hoy]
    simp only [decide_eq_false hk,cond_false,Option.bind_some]
end
section
variable {n:Nat} {L:List Led} (hg:grB n (gE L)=true) {e:Ed} (ha:0<=e.1/\e.1<n) (hb:0<=e.2/\e.2<n) {k:Int} (k0:0<=k) (k4:k<=4)
include hg ha hb k0 k4
theorem w_search (hN:NoCyc (atE L k)):g_sl08Search (((n:Int),L),e,k)=some (((sch n L e k).1,match (sch n L e k).2 with|none=>(-1:Int)|some (j,_)=>(j:Int)),()):=by
 have hm:maxLen=9223372036854775807:=by decide
 obtain ⟨h1,h12⟩:=gr_n hg
 obtain ⟨hgE,hgn,hL6⟩:=gr_e hg
 obtain ⟨hE,hEn,hEl⟩:=gr_at hg k
 obtain ⟨r,b,r1,r2,r3⟩:=w_sForestAt (n:=n) L k h1 h12 (by omega) hE
 obtain ⟨Fs,rfl,hF⟩:=r3 (r2.2 hN)
 obtain ⟨ja,pa,a1,a2,a3⟩:=w_sTreeOf hE hF h12 h1 e.1 ha.1 ha.2
 obtain ⟨jb,pb,b1,b2,b3⟩:=w_sTreeOf hE hF h12 h1 e.2 hb.1 hb.2
 have htl:=trs_len Fs
 have jal:=(List.getElem?_eq_some_iff.1 a1).1
 have jbl:=(List.getElem?_eq_some_iff.1 b1).1
 have hpa:=List.mem_of_getElem? a1
 have hpb:=List.mem_of_getElem? b1
 obtain ⟨Va,va1,_,va3,va4,_,va6⟩:=hF.verts h12 hpa
 obtain ⟨Vb,vb1,_,vb3,vb4,_,vb6⟩:=hF.verts h12 hpb
 have hGa:=hF.gt pa hpa
 have hGb:=hF.gt pb hpb
 have ra:=hGa.rg pa.1 (List.mem_cons_self ..)
 have rb:=hGb.rg pb.1 (List.mem_cons_self ..)
 have ca:=(hGa.con hE _).1 a2
 have cb:=(hGb.con hE _).1 b2
 have la:Va.length=cmp n L k e.1:=by rw [va4,comp_len hg hF hpa,cmp_same hg ra ha ca]
 have lb:Vb.length=cmp n L k e.2:=by rw [vb4,comp_len hg hF hpb,cmp_same hg rb hb cb]
 have ma:∀x:Int,0<=x/\x<n->(x∈Va↔lbl n L k x=lbl n L k e.1):=fun x hx=>by
  rw [va3,hGa.con hE,lbl_iff hg k hx ha]
  exact ⟨fun h=>h.symm.trans ca,fun h=>ca.trans h.symm⟩
 have mb:∀x:Int,0<=x/\x<n->(x∈Vb↔lbl n L k x=lbl n L k e.2):=fun x hx=>by
  rw [vb3,hGb.con hE,lbl_iff hg k hx hb]
  exact ⟨fun h=>h.symm.trans cb,fun h=>cb.trans h.symm⟩
 show f_sl08Search BIG _=_
 rw [e_sl08Search,decide_eq_true (by simp only;omega),cond_true,r1,Option.bind_some]
 simp only
 rw [a3,Option.bind_some,bnd_nat (by omega),trs_get a1,Option.bind_some,va1,Option.bind_some,b3,Option.bind_some,bnd_nat (by omega),trs_get b1,Option.bind_some,vb1,Option.bind_some]
 simp only
 have hsel:∃V,(bif decide ((Vb.length:Int)<(Va.length:Int)) then some Vb else some Va)=some V/\V.length<=12/\∀x:Int,0<=x/\x<n->(x∈V↔lbl n L k x=(if cmp n L k e.2<cmp n L k e.1 then lbl n L k e.2 else lbl n L k e.1)):=by
  by_cases hc:cmp n L k e.2<cmp n L k e.1
  ·rw [decide_eq_true (by omega),if_pos hc]
   exact ⟨Vb,rfl,vb6,mb⟩
  ·rw [decide_eq_false (by omega),if_neg hc]
   exact ⟨Va,rfl,va6,ma⟩
 obtain ⟨V,hV,hVl,hVm⟩:=hsel
 rw [hV,Option.bind_some,wrk k0 k4]
 have hup:(bif decide ((4:Int)<k+1) then some (4:Int) else some (k+1))=some (upL k):=by
  unfold upL
  by_cases h:4<k+1
  ·rw [decide_eq_true h,if_pos h];rfl
  ·rw [decide_eq_false h,if_neg h];rfl
 rw [hup,Option.bind_some,List.nil_append]
 unfold sch
 simp only
 generalize (if cmp n L k e.2<cmp n L k e.1 then lbl n L k e.2 else lbl n L k e.1)=c at hVm ⊢
 have hVd:∀x:Int,0<=x/\x<n->g_sl05In (V,x)=some (decide (lbl n L k x=c),()):=fun x hx=>by
  rw [h_sl05In V x (by omega)]
  by_cases h:lbl n L k x=c
  ·rw [decide_eq_true h,decide_eq_true ((hVm x hx).2 h)]
  ·rw [decide_eq_false h,decide_eq_false (fun h'=>h ((hVm x hx).1 h'))]
 have e1:=lkLoop L (by omega) (p1L (fun x=>decide (lbl n L k x=c)) k) (rzL k) hzL (fun (l:List Led) (i:Nat)=>((l,(i:Int)):List Led × Int)) (fun x=>x.2.toNat) (fun _ _=>by simp) (fun l=>l) (fun l _ _=>l) (F:=fun self12 x11=>
   bif decide (x11.2<(x11.1.length:Int)) then
    Option.bind (Option.bind (bnd x11.1.length x11.2 fun n13=>
     Option.bind x11.1[n13]? fun y14=>
     bif y14.2.2.2 then
      bnd x11.1.length x11.2 fun n15=>
      Option.bind x11.1[n15]? fun y16=>
      bif decide (y16.2.2.1=k) then
       bnd x11.1.length x11.2 fun n17=>
       Option.bind x11.1[n17]? fun y18=>
       Option.bind (g_sl05In (V,y18.1)) fun r19=>
       some r19.1
      else some false
     else some false:Option (Bool)) fun x20=>
     bif x20 then
      bnd x11.1.length x11.2 fun n21=>
      Option.bind x11.1[n21]? fun y22=>
      some (x11.1.set n21 (y22.1,y22.2.1,upL k,y22.2.2.2))
     else some x11.1:Option ((List (Int × Int × Int × Bool)))) fun x23=>
    self12 (x23,IntKind.wrap .i64 (x11.2+(1:Int)))
   else some x11.1) (fun self out i y ho hy hoy => ?_) (fun self out ho=>by simp [ho])
 ·rw [lkw_no (p1_ne _ _)] at e1
  simp only at e1
  have e1':(loopT BIG _ ((L,(0:Int)):List Led × Int))=_:=e1
  rw [e1',Option.bind_some,lkw_no (p1_ne _ _)]
  simp only
  have hmr:∀y,y∈L.map (fun y=>if p1L (fun x=>decide (lbl n L k x=c)) k y=1 then rzL k y else y)->(0<=y.1/\y.1<n)/\(0<=y.2.1/\y.2.1<n):=by
   intro y hy
   obtain ⟨z,hz,rfl⟩:=List.mem_map.1 hy
   have:=in_rg hg ha hb k0 k4 hz
   split
   ·exact this
   ·exact this
  have hml:(L.map (fun y=>if p1L (fun x=>decide (lbl n L k x=c)) k y=1 then rzL k y else y)).length=L.length:=by rw [List.length_map]
  have hor:∀(i:Nat) y,(L.map (fun y=>if p1L (fun x=>decide (lbl n L k x=c)) k y=1 then rzL k y else y))[i]?=some y->∃y0,L[i]?=some y0/\y0.2.2.2=y.2.2.2/\(y.2.2.2=false->y0.2.2.1=y.2.2.1):=by
   intro i y hy
   rw [List.getElem?_map,Option.map_eq_some_iff] at hy
   obtain ⟨y0,h0,rfl⟩:=hy
   refine ⟨y0,h0,?_,?_⟩
   ·split
    ·rfl
    ·rfl
   ·intro ht
    split at ht
    ·rename_i hp
     exfalso
     unfold p1L at hp
     split at hp
     ·rename_i hp'
      rw [show (rzL k y0).2.2.2=y0.2.2.2 from rfl,hp'.1] at ht
      cases ht
     ·omega
    ·rename_i hp
     rw [if_neg hp]
  generalize L.map (fun y=>if p1L (fun x=>decide (lbl n L k x=c)) k y=1 then rzL k y else y)=M at hmr hml hor
  have e2:=lkLoop M (by omega) (p2L (fun x=>decide (lbl n L k x=c)) k) (rzL k) hzL (fun (l:List Led) (i:Nat)=>((l,(i:Int)):List Led × Int)) (fun x=>x.2.toNat) (fun _ _=>by simp) (fun l=>Sum.inl l) (fun l j _=>Sum.inr (l,(j:Int))) (F:=fun self26 x25=>
   bif decide (x25.2<(x25.1.length:Int)) then
    Option.bind (bnd x25.1.length x25.2 fun n27=>
     Option.bind x25.1[n27]? fun y28=>
     Option.bind (g_sl05In (V,y28.1)) fun r29=>
     bnd x25.1.length x25.2 fun n30=>
     Option.bind x25.1[n30]? fun y31=>
     Option.bind (g_sl05In (V,y31.2.1)) fun r32=>
     Option.bind (bnd L.length x25.2 fun n33=>
      Option.bind L[n33]? fun y34=>
      bif y34.2.2.2 then
       some true
      else bnd L.length x25.2 fun n35=>
      Option.bind L[n35]? fun y36=>
      bif !decide (y36.2.2.1=k) then
       some true
      else bif !r29.1 then
       some !r32.1
      else some false:Option (Bool)) fun x37=>
     bif x37 then
      some (Sum.inl x25.1)
     else Option.bind (bif r29.1 then
      some r32.1
      else some false:Option (Bool)) fun x38=>
     bif x38 then
      bnd x25.1.length x25.2 fun n39=>
      Option.bind x25.1[n39]? fun y40=>
      some (Sum.inl (x25.1.set n39 (y40.1,y40.2.1,upL k,y40.2.2.2)))
     else bnd x25.1.length x25.2 fun n41=>
     Option.bind x25.1[n41]? fun y42=>
     some (Sum.inr (x25.1.set n41 (y42.1,y42.2.1,y42.2.2.1,true),x25.2)):Option (((List (Int × Int × Int × Bool))) ⊕ ((List (Int × Int × Int × Bool)) × Int))) fun y=>match y with
    | .inl x43=>
     self26 (x43,IntKind.wrap .i64 (x25.2+(1:Int)))
    | .inr x43=>
     some (Sum.inr (x43.1,x43.2))
   else some (Sum.inl x25.1)) (fun self out i y ho hy hoy => ?_) (fun self out ho=>by simp [ho])
  ·refine (bind_of e2 _).trans ?_
   cases (lkw M (p2L (fun x=>decide (lbl n L k x=c)) k) (rzL k) hzL).2 with
   | none=>rfl
   | some r=>rfl
  ·have hi:=(List.getElem?_eq_some_iff.1 hy).1
   obtain ⟨q1,q2⟩:=hmr y (List.mem_of_getElem? hy)
   obtain ⟨y0,o1,o2,o3⟩:=hor i y hy
   have bo:∀{B:Type} {q:Nat->Option B},bnd out.length (i:Int) q=q i:=fun {B q}=>bnd_nat (by omega)
   have bL:∀{B:Type} {q:Nat->Option B},bnd L.length (i:Int) q=q i:=fun {B q}=>bnd_nat (by omega)
   simp only [show ((i:Int)<(out.length:Int)) from by omega,decide_true,cond_true,bo,bL,hoy,o1,Option.bind_some,hVd y.1 q1,hVd y.2.1 q2,o2]
   rw [wr1 (by omega)]
   cases ht:y.2.2.2 with
   | true=>
    have hp:p2L (fun x=>decide (lbl n L k x=c)) k y=0:=by unfold p2L;rw [if_pos (.inl ht)]
    rw [hp,if_neg (by omega),if_neg (by omega),set_self hoy]
    rfl
   | false=>
    rw [o3 ht]
    simp only [cond_false]
    by_cases hk:y.2.2.1=k
    ·simp only [decide_eq_true hk,Bool.not_true,cond_false]
     by_cases hA:lbl n L k y.1=c
     ·by_cases hB:lbl n L k y.2.1=c
      ·have hp:p2L (fun x=>decide (lbl n L k x=c)) k y=1:=by
        unfold p2L
        rw [if_neg (by simp [ht,hk,hA]),if_pos (by simp [hA,hB])]
       rw [hp,if_neg (by omega),if_pos rfl]
       simp only [decide_eq_true hA,decide_eq_true hB,Bool.not_true,cond_false,cond_true,Option.bind_some]
       unfold rzL
       rw [ht]
      ·have hp:p2L (fun x=>decide (lbl n L k x=c)) k y=2:=by
        unfold p2L
        rw [if_neg (by simp [ht,hk,hA]),if_neg (by simp [hB])]
       rw [hp,if_pos rfl]
       simp only [decide_eq_true hA,decide_eq_false hB,Bool.not_true,cond_false,cond_true,Option.bind_some]
       rfl
     ·by_cases hB:lbl n L k y.2.1=c
      ·have hp:p2L (fun x=>decide (lbl n L k x=c)) k y=2:=by
        unfold p2L
        rw [if_neg (by simp [ht,hk,hB]),if_neg (by simp [hA])]
       rw [hp,if_pos rfl]
       simp only [decide_eq_false hA,decide_eq_true hB,Bool.not_false,Bool.not_true,cond_false,cond_true,Option.bind_some]
       rfl
      ·have hp:p2L (fun x=>decide (lbl n L k x=c)) k y=0:=by
        unfold p2L
        rw [if_pos (.inr (.inr ⟨decide_eq_false hA,decide_eq_false hB⟩))]
       rw [hp,if_neg (by omega),if_neg (by omega),set_self hoy]
       simp only [decide_eq_false hA,decide_eq_false hB,Bool.not_false,cond_true,Option.bind_some]
    ·have hp:p2L (fun x=>decide (lbl n L k x=c)) k y=0:=by unfold p2L;rw [if_pos (.inr (.inl hk))]
     rw [hp,if_neg (by omega),if_neg (by omega),set_self hoy]
     simp only [decide_eq_false hk,Bool.not_false,cond_true,Option.bind_some]
 ·have hi:=(List.getElem?_eq_some_iff.1 hy).1
  obtain ⟨q1,q2⟩:=in_rg hg ha hb k0 k4 (List.mem_of_getElem? hy)
  have bo:∀{B:Type} {q:Nat->Option B},bnd out.length (i:Int) q=q i:=fun {B q}=>bnd_nat (by omega)
  simp only [show ((i:Int)<(out.length:Int)) from by omega,decide_true,cond_true,bo,hoy,Option.bind_some,hVd y.1 q1]
  rw [wr1 (by omega),if_neg (p1_ne _ _ _)]
  cases ht:y.2.2.2 with
  | false=>
   have hp:p1L (fun x=>decide (lbl n L k x=c)) k y=0:=by unfold p1L;rw [if_neg (by simp [ht])]
   rw [hp,if_neg (by omega),set_self hoy]
   rfl
  | true=>
   simp only [cond_true]
   by_cases hk:y.2.2.1=k
   ·simp only [decide_eq_true hk,cond_true]
    by_cases hA:lbl n L k y.1=c
    ·have hp:p1L (fun x=>decide (lbl n L k x=c)) k y=1:=by unfold p1L;rw [if_pos ⟨ht,hk,decide_eq_true hA⟩]
     rw [hp,if_pos rfl]
     simp only [decide_eq_true hA,cond_true,Option.bind_some]
     unfold rzL
     rw [ht]
    ·have hp:p1L (fun x=>decide (lbl n L k x=c)) k y=0:=by unfold p1L;rw [if_neg (by simp [hA])]
     rw [hp,if_neg (by omega),set_self hoy]
     simp only [decide_eq_false hA,cond_false,Option.bind_some]
   ·have hp:p1L (fun x=>decide (lbl n L k x=c)) k y=0:=by unfold p1L;rw [if_neg (by simp [hk])]
    rw [hp,if_neg (by omega),set_self hoy]
    simp only [decide_eq_false hk,cond_false,Option.bind_some]
end
theorem h_sl08Put (L:List Led) (x:Led) (hL:L.length<=1048576):g_sl08Put (L,x)=some (L.filter (fun y=>lsB (y.1,y.2.1) (x.1,x.2.1))++[x]++L.filter (fun y=>lsB (x.1,x.2.1) (y.1,y.2.1)),()):=by
 have hm:maxLen=9223372036854775807:=by decide
 have hfl:∀(p:Led->Bool) (i:Nat),((L.take i).filter p).length<=i:=fun p i=>by
  have:=List.length_filter_le p (L.take i)
  rw [List.length_take] at this
  omega
 have hfs:∀(p:Led->Bool) (i:Nat) (hi:i<L.length),(L.take (i+1)).filter p=(L.take i).filter p++(if p L[i]=true then [L[i]] else []):=fun p i hi=>by
  rw [List.take_succ_eq_append_getElem hi,List.filter_append]
  congr 1
  by_cases h:p L[i]=true<;>simp [h]
 show f_sl08Put BIG _=_
 rw [e_sl08Put]
 refine loop_bind (x:=([],(0:Int))) (P:=fun o=>o=some (L.filter (fun y=>lsB (y.1,y.2.1) (x.1,x.2.1))++[x]++L.filter (fun y=>lsB (x.1,x.2.1) (y.1,y.2.1)),())) (fun (s:List Led × Int)=>∃i:Nat,s.2=(i:Int)/\i<=L.length/\s.1=(L.take i).filter (fun y=>lsB (y.1,y.2.1) (x.1,x.2.1))) (fun s=>L.length-s.2.toNat) (fun _ (b:List Led)=>b=L.filter (fun y=>lsB (y.1,y.2.1) (x.1,x.2.1))) (by simp [BIG];omega) ⟨0,rfl,by omega,rfl⟩ (fun self s hx hs => ?_) (fun b hb => ?_)
 ·obtain ⟨out,jj⟩:=s
  obtain ⟨i,h1,h2,h3⟩:=hx
  simp only at h1 h2 h3 hs ⊢
  subst h1 h3
  by_cases hi:i<L.length
  ·have hfi:=hfl (fun y=>lsB (y.1,y.2.1) (x.1,x.2.1)) i
   have bi:∀{B:Type} {q:Nat->Option B},bnd L.length (i:Int) q=q i:=fun {B q}=>bnd_nat hi
   simp only [show ((i:Int)<(L.length:Int)) from by omega,decide_true,cond_true,bi,List.getElem?_eq_getElem hi,Option.bind_some]
   have hc:(bif decide (L[i].1<x.1) then some true else bif decide (L[i].1=x.1) then some (decide (L[i].2.1<x.2.1)) else some false)=some (lsB (L[i].1,L[i].2.1) (x.1,x.2.1)):=by
    unfold lsB
    simp only
    cases decide (L[i].1<x.1)<;>cases decide (L[i].1=x.1)<;>rfl
   rw [hc,Option.bind_some,wr1 (by omega)]
   have hs':=hs ((L.take (i+1)).filter (fun y=>lsB (y.1,y.2.1) (x.1,x.2.1)),((i+1:Nat):Int)) ⟨i+1,rfl,hi,rfl⟩ (by simp;omega)
   rw [hfs _ i hi] at hs'
   refine Eq.mpr ?_ hs'
   cases hp:lsB (L[i].1,L[i].2.1) (x.1,x.2.1) with
   | true=>
    simp only [cond_true,if_true]
    rw [decide_eq_true (by simp only [List.length_cons,List.length_nil];omega),cond_true,Option.bind_some]
   | false=>
    simp only [cond_false,Bool.false_eq_true,if_false,List.append_nil,Option.bind_some]
  ·simp only [show ¬((i:Int)<(L.length:Int)) from by omega,decide_false,cond_false]
   have:i=L.length:=by omega
   subst this
   exact ⟨_,rfl,by rw [List.take_length]⟩
 ·subst hb
  have h0:=List.length_filter_le (fun y=>lsB (y.1,y.2.1) (x.1,x.2.1)) L
  rw [decide_eq_true (by simp only [List.length_cons,List.length_nil];omega),cond_true]
  refine loop_bind (x:=(L.filter (fun y=>lsB (y.1,y.2.1) (x.1,x.2.1))++[x],(0:Int))) (P:=fun o=>o=some (L.filter (fun y=>lsB (y.1,y.2.1) (x.1,x.2.1))++[x]++L.filter (fun y=>lsB (x.1,x.2.1) (y.1,y.2.1)),())) (fun (s:List Led × Int)=>∃i:Nat,s.2=(i:Int)/\i<=L.length/\s.1=L.filter (fun y=>lsB (y.1,y.2.1) (x.1,x.2.1))++[x]++(L.take i).filter (fun y=>lsB (x.1,x.2.1) (y.1,y.2.1))) (fun s=>L.length-s.2.toNat) (fun _ (b:List Led)=>b=L.filter (fun y=>lsB (y.1,y.2.1) (x.1,x.2.1))++[x]++L.filter (fun y=>lsB (x.1,x.2.1) (y.1,y.2.1))) (by simp [BIG];omega) ⟨0,rfl,by omega,by simp⟩ (fun self s hx hs => ?_) (fun b hb=>by rw [hb])
  obtain ⟨out,jj⟩:=s
  obtain ⟨i,h1,h2,h3⟩:=hx
  simp only at h1 h2 h3 hs ⊢
  subst h1 h3
  by_cases hi:i<L.length
  ·have hfi:=hfl (fun y=>lsB (x.1,x.2.1) (y.1,y.2.1)) i
   have bi:∀{B:Type} {q:Nat->Option B},bnd L.length (i:Int) q=q i:=fun {B q}=>bnd_nat hi
   simp only [show ((i:Int)<(L.length:Int)) from by omega,decide_true,cond_true,bi,List.getElem?_eq_getElem hi,Option.bind_some]
   have hc:(bif decide (x.1<L[i].1) then some true else bif decide (L[i].1=x.1) then some (decide (x.2.1<L[i].2.1)) else some false)=some (lsB (x.1,x.2.1) (L[i].1,L[i].2.1)):=by
    unfold lsB
    simp only
    have:decide (L[i].1=x.1)=decide (x.1=L[i].1):=by
     by_cases h:L[i].1=x.1
     ·rw [decide_eq_true h,decide_eq_true h.symm]
     ·rw [decide_eq_false h,decide_eq_false (fun h'=>h h'.symm)]
    rw [this]
    cases decide (x.1<L[i].1)<;>cases decide (x.1=L[i].1)<;>rfl
   rw [hc,Option.bind_some,wr1 (by omega)]
   have hs':=hs (L.filter (fun y=>lsB (y.1,y.2.1) (x.1,x.2.1))++[x]++(L.take (i+1)).filter (fun y=>lsB (x.1,x.2.1) (y.1,y.2.1)),((i+1:Nat):Int)) ⟨i+1,rfl,hi,rfl⟩ (by simp;omega)
   rw [hfs _ i hi,<-List.append_assoc] at hs'
   refine Eq.mpr ?_ hs'
   cases hp:lsB (x.1,x.2.1) (L[i].1,L[i].2.1) with
   | true=>
    simp only [cond_true,if_true]
    rw [decide_eq_true (by simp only [List.length_append,List.length_cons,List.length_nil];omega),cond_true,Option.bind_some]
   | false=>
    simp only [cond_false,Bool.false_eq_true,if_false,List.append_nil,Option.bind_some]
  ·simp only [show ¬((i:Int)<(L.length:Int)) from by omega,decide_false,cond_false]
   have:i=L.length:=by omega
   subst this
   exact ⟨_,rfl,by rw [List.take_length]⟩
theorem put_eq {L:List Led} {e:Ed} (hs:Srt (gE L)) (hne:e∉gE L) {k:Nat} (hk:k<=L.length) (h1:∀j (hj:j<L.length),j<k->lsB (L[j].1,L[j].2.1) e=true) (h2:∀hj:k<L.length,lsB (L[k].1,L[k].2.1) e=false) :
  L.filter (fun y=>lsB (y.1,y.2.1) e)=L.take k/\L.filter (fun y=>lsB e (y.1,y.2.1))=L.drop k:=by
 have hasym:∀a b:Ed,lsB a b=true->lsB b a=false:=by
  intro a b h
  cases hb:lsB b a with
  | false=>rfl
  | true=>
   exfalso
   simp only [lsB,Bool.or_eq_true,Bool.and_eq_true,decide_eq_true_eq] at h hb
   omega
 have hT:∀y,y∈L.take k->lsB (y.1,y.2.1) e=true:=by
  intro y hy
  obtain ⟨j,hj,rfl⟩:=List.mem_iff_getElem.1 hy
  rw [List.length_take] at hj
  rw [List.getElem_take]
  exact h1 j (by omega) (by omega)
 have hgl:(gE L).length=L.length:=by unfold gE;rw [List.length_map]
 have hge:∀j (hj:j<L.length),(gE L)[j]'(by omega)=(L[j].1,L[j].2.1):=fun j hj=>by unfold gE;rw [List.getElem_map]
 have hD:∀y,y∈L.drop k->lsB e (y.1,y.2.1)=true:=by
  intro y hy
  obtain ⟨j,hj,rfl⟩:=List.mem_iff_getElem.1 hy
  rw [List.length_drop] at hj
  rw [List.getElem_drop]
  have hkl:k<L.length:=by omega
  have hk2:lsB e (L[k].1,L[k].2.1)=true:=by
   cases hb:lsB e (L[k].1,L[k].2.1) with
   | true=>rfl
   | false=>
    have:=lsB_tri (h2 hkl) hb
    exact absurd (List.mem_map.2 ⟨L[k],List.getElem_mem hkl,this⟩) hne
  by_cases hj0:j=0
  ·subst hj0;exact hk2
  ·have:=List.pairwise_iff_getElem.1 hs k (k+j) (by omega) (by omega) (by omega)
   rw [hge k hkl,hge (k+j) (by omega)] at this
   exact lsB_trans hk2 this
 constructor
 ·conv=>lhs;rw [<-List.take_append_drop k L,List.filter_append]
  rw [List.filter_eq_self.2 hT,List.filter_eq_nil_iff.2 (fun y hy=>by rw [hasym _ _ (hD y hy)];simp),List.append_nil]
 ·conv=>lhs;rw [<-List.take_append_drop k L,List.filter_append]
  rw [List.filter_eq_self.2 hD,List.filter_eq_nil_iff.2 (fun y hy=>by rw [hasym _ _ (hT y hy)];simp),List.nil_append]
theorem w_WebAdd (n:Int) (L:List Led) (e:Ed) (hL:L.length<=1000000):∃r:Int × List Led × Bool,g_iWebAdd ((n,L),e)=some (r,())/\g_sWebAdd ((n,L),e)=some (r,())/\r.2.1.length<=67/\(¬(0<=n/\WOk n.toNat L/\edB n e=true/\e∉gE L)->r=(0,[],false))/\((0<=n/\WOk n.toNat L/\edB n e=true/\e∉gE L)->r=(n,L.filter (fun y=>lsB (y.1,y.2.1) e)++[(e.1,e.2,0,!decide (lbl n.toNat L 0 e.1=lbl n.toNat L 0 e.2))]++L.filter (fun y=>lsB e (y.1,y.2.1)),true)):=by
 have hm:maxLen=9223372036854775807:=by decide
 have hgl:(gE L).length=L.length:=by unfold gE;rw [List.length_map]
 have hGi:g_iGraphOf (n,L)=some ((n,gE L),()):=h_iGraphOf n L (by omega)
 have hGs:g_sGraphOf (n,L)=some ((n,gE L),()):=h_sGraphOf n L (by omega)
 obtain ⟨b,b1,b2⟩:=w_iWebOk n L (by omega)
 obtain ⟨b',b1',b2'⟩:=w_sWebOk n L (by omega)
 have hbb:b'=b:=by cases b<;>cases b'<;>simp_all
 subst hbb
 show ∃r:Int × List Led × Bool,f_iWebAdd BIG _=_/\f_sWebAdd BIG _=_/\_
 rw [e_iWebAdd,e_sWebAdd,hGi,hGs,Option.bind_some,Option.bind_some]
 simp only
 simp only [w_iAddEdge n (gE L) e (by omega),w_sAddEdge n (gE L) e (by omega),b1,b1',Option.bind_some]
 cases b' with
 | false=>exact ⟨_,rfl,rfl,by simp,fun _=>rfl,fun h=>absurd (b2.2 ⟨h.1,h.2.1⟩) (by simp)⟩
 | true=>
  obtain ⟨n0,hw⟩:=b2.1 rfl
  obtain ⟨m,rfl⟩:∃m:Nat,n=(m:Int):=⟨n.toNat,by omega⟩
  rw [Int.toNat_natCast] at hw
  have hg:=hw.gr
  obtain ⟨h1,h12⟩:=gr_n hg
  obtain ⟨hgE,hgn,hL6⟩:=gr_e hg
  have hsrt:Srt (gE L):=by
   have h:=hg
   unfold grB at h
   rw [Bool.and_eq_true] at h
   exact (eOk_srt h.2).2.1
  simp only [Bool.not_true,cond_false]
  unfold addR
  rw [hg,Bool.true_and]
  by_cases hc:(edB (m:Int) e && !decide (e∈gE L))=true
  case neg=>
   rw [if_neg hc]
   exact ⟨_,rfl,rfl,by simp,fun _=>rfl,fun h=>absurd (by rw [h.2.2.1,decide_eq_false h.2.2.2];rfl) hc⟩
  rw [if_pos hc]
  simp only [Bool.and_eq_true,Bool.not_eq_true',decide_eq_false_iff_not] at hc
  obtain ⟨he,hne⟩:=hc
  have her:=edB_in he
  simp only [Bool.not_true,Option.bind_some,cond_false]
  have hll:=labs_len m (atE L 0)
  rw [h_ilabelsAt L 0 h12 (by omega) (gr_ein hg 0),Option.bind_some]
  simp only
  -- the place
  have hkk:L.findIdx (fun y=>!lsB (y.1,y.2.1) e)<=L.length:=List.findIdx_le_length
  have hpl:∀j (hj:j<L.length),j<L.findIdx (fun y=>!lsB (y.1,y.2.1) e)->lsB (L[j].1,L[j].2.1) e=true:=by
   intro j hj hlt
   have:=List.not_of_lt_findIdx hlt
   simpa using this
  have hps:∀hj:L.findIdx (fun y=>!lsB (y.1,y.2.1) e)<L.length,lsB (L[L.findIdx (fun y=>!lsB (y.1,y.2.1) e)].1,L[L.findIdx (fun y=>!lsB (y.1,y.2.1) e)].2.1) e=false:=by
   intro hj
   have:=List.findIdx_getElem (w:=hj)
   simpa using this
  generalize L.findIdx (fun y=>!lsB (y.1,y.2.1) e)=kk at hkk hpl hps
  obtain ⟨q1,q2⟩:=put_eq hsrt hne hkk hpl hps
  have hloop:loopT BIG (fun self6 x5=>
   Option.bind (bif decide (x5<(L.length:Int)) then
    bnd L.length x5 fun n7=>
    Option.bind L[n7]? fun y8=>
    bnd L.length x5 fun n9=>
    Option.bind L[n9]? fun y10=>
    Option.bind (g_iahead ((y8.1,y10.2.1),e)) fun r11=>
    some r11.1
    else some false:Option (Bool)) fun x12=>
   bif x12 then
    self6 (IntKind.wrap .i64 (x5+(1:Int)))
   else some x5) (0:Int)=some ((kk:Nat):Int):=by
   refine loop_eq (fun (x:Int)=>∃i:Nat,x=(i:Int)/\i<=kk) (fun x=>kk-x.toNat) (fun _=>((kk:Nat):Int)) (fun self x ⟨i,h1,h2⟩ hs => ?_) (n:=BIG) (x:=0) (by simp [BIG];omega) ⟨0,rfl,by omega⟩
   subst h1
   by_cases hi:i<L.length
   ·have bi:∀{B:Type} {q:Nat->Option B},bnd L.length (i:Int) q=q i:=fun {B q}=>bnd_nat hi
    simp only [show ((i:Int)<(L.length:Int)) from by omega,decide_true,cond_true,bi,List.getElem?_eq_getElem hi,Option.bind_some,h_iahead]
    by_cases hik:i<kk
    ·rw [hpl i hi hik,cond_true,wr1 (by omega)]
     exact hs _ ⟨i+1,rfl,hik⟩ (by simp;omega)
    ·have:i=kk:=by omega
     subst this
     rw [hps hi,cond_false]
   ·have:i=kk:=by omega
    subst this
    simp only [show ¬((i:Int)<(L.length:Int)) from by omega,decide_false,cond_false,Option.bind_some]
  rw [hloop,Option.bind_some]
  have gA:∀{B:Type} {q:Nat->Option B} {v:Int},0<=v/\v<m->bnd (labs m (atE L 0)).length v q=q v.toNat:=fun h=>bnd_ok h.1 (by omega)
  have gV:∀{v:Int},0<=v/\v<m->(labs m (atE L 0))[v.toNat]?=some (lbl m L 0 v):=fun h=>getD_at (by omega)
  have hcp:g_icopyWeb ((m:Int),L.take kk)=some (((m:Int),L.take kk),()):=by
   show f_icopyWeb BIG _=_
   rw [e_icopyWeb,decide_eq_true (by simp only [List.length_take];omega)];rfl
  have hdr:List.take (L.length-kk) (L.drop kk)=L.drop kk:=List.take_of_length_le (by rw [List.length_drop];omega)
  rw [decide_eq_true (by omega),cond_true,Int.toNat_natCast,decide_eq_true (by omega),cond_true,Nat.sub_zero,List.drop_zero,hcp,Option.bind_some,gA ⟨her.1,her.2.1⟩,gV ⟨her.1,her.2.1⟩,Option.bind_some,gA ⟨her.2.2.1,her.2.2.2.1⟩,gV ⟨her.2.2.1,her.2.2.2.1⟩,Option.bind_some,hdr]
  simp only
  rw [decide_eq_true (by simp only [List.length_take,List.length_cons,List.length_nil];omega),cond_true,decide_eq_true (by omega),cond_true,decide_eq_true (by simp only [List.length_append,List.length_take,List.length_drop,List.length_cons,List.length_nil];omega),cond_true]
  have hyes:0<=(m:Int)/\WOk (m:Int).toNat L/\edB (m:Int) e=true/\e∉gE L:=⟨n0,by rw [Int.toNat_natCast];exact hw,he,hne⟩
  refine ⟨_,rfl,?_,?_,fun h=>absurd hyes h,fun _ => ?_⟩
  rotate_right
  ·rw [q1,q2,Int.toNat_natCast]
  ·-- the reference
   obtain ⟨hE,hEn,hEl⟩:=gr_at hg 0
   obtain ⟨r,b,r1,r2,r3⟩:=w_sForestAt (n:=m) L 0 h1 h12 (by omega) hE
   obtain ⟨Fs,rfl,hF⟩:=r3 (r2.2 hw.nc)
   obtain ⟨ja,pa,a1,a2,a3⟩:=w_sTreeOf hE hF h12 h1 e.1 her.1 her.2.1
   obtain ⟨jb,pb,c1,c2,c3⟩:=w_sTreeOf hE hF h12 h1 e.2 her.2.2.1 her.2.2.2.1
   have hiff:((ja:Int)=(jb:Int))↔lbl m L 0 e.1=lbl m L 0 e.2:=by
    rw [lbl_iff hg 0 ⟨her.1,her.2.1⟩ ⟨her.2.2.1,her.2.2.2.1⟩]
    constructor
    ·intro h
     have:ja=jb:=by omega
     subst this
     rw [a1,Option.some.injEq] at c1
     subst c1
     have hG:=hF.gt pa (List.mem_of_getElem? a1)
     exact ((hG.con hE _).1 a2).symm.trans ((hG.con hE _).1 c2)
    ·intro h
     have:=hF.idx hE a1 c1 a2 c2 h
     omega
   have hd:decide ((ja:Int)=(jb:Int))=decide (lbl m L 0 e.1=lbl m L 0 e.2):=by
    by_cases h:lbl m L 0 e.1=lbl m L 0 e.2
    ·rw [decide_eq_true h,decide_eq_true (hiff.2 h)]
    ·rw [decide_eq_false h,decide_eq_false (fun h'=>h (hiff.1 h'))]
   rw [r1,Option.bind_some]
   simp only
   rw [a3,Option.bind_some,c3,Option.bind_some,h_sl08Put _ _ (by omega),Option.bind_some]
   simp only
   rw [q1,q2,hd]
  ·simp only [List.length_append,List.length_take,List.length_drop,List.length_cons,List.length_nil];omega
theorem lkw_hit {L:List Led} {p:Led->Nat} {rz hz:Led->Led} {j:Nat} {y:Led} (h:(lkw L p rz hz).2=some (j,y)):(lkw L p rz hz).1[j]?=some y:=by
 unfold lkw at h ⊢
 split at h
 ·rename_i hlt
  simp only [Option.some.injEq,Prod.mk.injEq] at h
  obtain ⟨rfl,rfl⟩:=h
  rw [dif_pos hlt]
  simp only
  rw [List.getElem?_append_right (by rw [List.length_map,List.length_take];exact Nat.min_le_left ..),List.length_map,List.length_take,Nat.min_eq_left (Nat.le_of_lt hlt),Nat.sub_self]
  rfl
 ·cases h
def tkRw (n:Nat) (e:Ed):Nat->List Led->List Led × Option Led
 | 0,L=>(L,none)
 | k+1,L=>match (sch n L e (k:Int)).2 with
  | none=>tkRw n e k (sch n L e (k:Int)).1
  | some (_,y)=>((sch n L e (k:Int)).1,some y)
theorem sch_len (n:Nat) (L:List Led) (e:Ed) (k:Int):(sch n L e k).1.length=L.length:=by
 unfold sch
 simp only
 rw [lkw_len,lkw_len]
theorem tkRw_len (n:Nat) (e:Ed):∀(k:Nat) (L:List Led),(tkRw n e k L).1.length=L.length
 | 0,L=>rfl
 | k+1,L=>by
  unfold tkRw
  split
  ·rw [tkRw_len n e k,sch_len]
  ·exact sch_len ..
structure SOk (n:Nat) (L:List Led):Prop where
 gr:grB n (gE L)=true
 nc:NoCyc (trE L)
theorem at_tr (L:List Led) (k:Int):∀e,e∈atE L k->e∈trE L:=by
 intro e he
 unfold atE at he
 unfold trE
 rw [List.mem_map] at he ⊢
 obtain ⟨x,h1,h2⟩:=he
 simp only [List.mem_filter,Bool.and_eq_true] at h1
 exact ⟨x,List.mem_filter.2 ⟨h1.1,h1.2.1⟩,h2⟩
theorem sch_gE (n:Nat) (L:List Led) (e:Ed) (k:Int):gE (sch n L e k).1=gE L:=by
 unfold sch
 simp only
 rw [lkw_gE (rz:=rzL k) (hz:=hzL) (fun _=>rfl) (fun _=>rfl),lkw_gE (rz:=rzL k) (hz:=hzL) (fun _=>rfl) (fun _=>rfl)]
theorem sch_trE {n:Nat} {L:List Led} {e:Ed} {k:Int} (h:(sch n L e k).2=none):trE (sch n L e k).1=trE L:=by
 unfold sch at h ⊢
 simp only at h ⊢
 rw [lkw_trE (rz:=rzL k) (hz:=hzL) (fun _=>rfl) (fun _=>rfl) h,lkw_trE (rz:=rzL k) (hz:=hzL) (fun _=>rfl) (fun _=>rfl) (by rw [lkw_no (p1_ne _ _)])]
theorem SOk.sch {n:Nat} {L:List Led} (h:SOk n L) {e:Ed} {k:Int} (hn:(sch n L e k).2=none):SOk n (sch n L e k).1:=⟨by rw [sch_gE];exact h.gr,by rw [sch_trE hn];exact h.nc⟩
def rmS (e:Ed) (s:Led × List Led) (y:Led):Led × List Led:=if y.1=e.1/\y.2.1=e.2 then (y,s.2) else (s.1,s.2++[y])
theorem rm_spec (e:Ed):∀(L:List Led) (o:Led) (acc:List Led),(L.foldl (rmS e) (o,acc)).2=acc++L.filter (fun y=>decide ((y.1,y.2.1)≠e))/\((L.foldl (rmS e) (o,acc)).1=o\/((L.foldl (rmS e) (o,acc)).1∈L/\((L.foldl (rmS e) (o,acc)).1.1,(L.foldl (rmS e) (o,acc)).1.2.1)=e))/\((∃y,y∈L/\(y.1,y.2.1)=e)->(L.foldl (rmS e) (o,acc)).1∈L/\((L.foldl (rmS e) (o,acc)).1.1,(L.foldl (rmS e) (o,acc)).1.2.1)=e)
 | [],o,acc=>by simp
 | x::L,o,acc=>by
  rw [List.foldl_cons]
  by_cases hx:x.1=e.1/\x.2.1=e.2
  ·have hxe:(x.1,x.2.1)=e:=by rw [hx.1,hx.2]
   have hs:rmS e (o,acc) x=(x,acc):=by unfold rmS;rw [if_pos hx]
   rw [hs]
   obtain ⟨h1,h2,h3⟩:=rm_spec e L x acc
   have h4:(L.foldl (rmS e) (x,acc)).1∈x::L/\((L.foldl (rmS e) (x,acc)).1.1,(L.foldl (rmS e) (x,acc)).1.2.1)=e:=by
    rcases h2 with h2|h2
    ·rw [h2];exact ⟨List.mem_cons_self ..,hxe⟩
    ·exact ⟨List.mem_cons_of_mem _ h2.1,h2.2⟩
   exact ⟨by rw [h1,List.filter_cons_of_neg (by simp [hxe])],.inr h4,fun _=>h4⟩
  ·have hxe:(x.1,x.2.1)≠e:=fun h=>hx ⟨by rw [<-h],by rw [<-h]⟩
   have hs:rmS e (o,acc) x=(o,acc++[x]):=by unfold rmS;rw [if_neg hx]
   rw [hs]
   obtain ⟨h1,h2,h3⟩:=rm_spec e L o (acc++[x])
   refine ⟨?_,?_,fun h => ?_⟩
   ·rw [h1,List.filter_cons_of_pos (by simpa using hxe)]
    simp
   ·rcases h2 with h2|h2
    ·exact .inl h2
    ·exact .inr ⟨List.mem_cons_of_mem _ h2.1,h2.2⟩
   ·obtain ⟨y,hy,hye⟩:=h
    rw [List.mem_cons] at hy
    rcases hy with rfl|hy
    ·exact absurd hye hxe
    ·have:=h3 ⟨y,hy,hye⟩
     exact ⟨List.mem_cons_of_mem _ this.1,this.2⟩
theorem rm_len (e:Ed) (L:List Led) (i:Nat):((L.take i).foldl (rmS e) (((0:Int),(0:Int),(0:Int),false),[])).2.length<=i:=by
 rw [(rm_spec e (L.take i) _ []).1]
 have:=List.length_filter_le (fun y:Led=>decide ((y.1,y.2.1)≠e)) (L.take i)
 rw [List.length_take] at this
 rw [List.nil_append]
 omega
def lvR (n:Nat) (t:List Led × Option Led):((Int × List Led) × (Int × List Led) × (Int × Int)) ⊕ ((Int × List Led) × (Int × Int) × Bool × Bool):=
 match t.2 with
 | none=>.inl (((n:Int),t.1),((0:Int),[]),((0:Int),(0:Int)))
 | some y=>.inr (((n:Int),t.1),(y.1,y.2.1),true,true)
section
variable {n:Nat} {e:Ed} (ha:0<=e.1/\e.1<n) (hb:0<=e.2/\e.2<n)
include ha hb
theorem lv_i (k:Nat) (hk:k<=5) (L:List Led) (hS:SOk n L):loopT BIG (fun self12 x11=>
  Option.bind (bif decide ((0:Int)<=x11.2.2.2) then
   some true
   else some false:Option (Bool)) fun x13=>
  bif x13 then
   Option.bind (g_iWeb_look (x11.1,e,x11.2.2.2)) fun r14=>
   bif r14.1.2.2 then
    some (Sum.inr (r14.2,(r14.1.1,r14.1.2.1),true,true))
   else self12 (r14.2,x11.2.1,x11.2.2.1,IntKind.wrap .i64 (x11.2.2.2-(1:Int)))
  else some (Sum.inl (x11.1,x11.2.1,x11.2.2.1))) ((((n:Int),L),((0:Int),[]),((0:Int),(0:Int)),(k:Int)-1):(Int × List Led) × (Int × List Led) × (Int × Int) × Int)=some (lvR n (tkRw n e k L)):=by
 have hm:maxLen=9223372036854775807:=by decide
 refine Exists.elim (loop_rel (F:=fun self12 x11=>
  Option.bind (bif decide ((0:Int)<=x11.2.2.2) then
   some true
   else some false:Option (Bool)) fun x13=>
  bif x13 then
   Option.bind (g_iWeb_look (x11.1,e,x11.2.2.2)) fun r14=>
   bif r14.1.2.2 then
    some (Sum.inr (r14.2,(r14.1.1,r14.1.2.1),true,true))
   else self12 (r14.2,x11.2.1,x11.2.2.1,IntKind.wrap .i64 (x11.2.2.2-(1:Int)))
  else some (Sum.inl (x11.1,x11.2.1,x11.2.2.1))) (fun (x:(Int × List Led) × (Int × List Led) × (Int × Int) × Int)=>∃(k:Nat) (L:List Led),x=(((n:Int),L),((0:Int),[]),((0:Int),(0:Int)),(k:Int)-1)/\k<=5/\SOk n L) (fun x=>(x.2.2.2+1).toNat)
  (fun x b=>∀(k:Nat) (L:List Led),x=(((n:Int),L),((0:Int),[]),((0:Int),(0:Int)),(k:Int)-1)->b=lvR n (tkRw n e k L)) (fun self x hx hs => ?_) (n:=BIG) (x:=(((n:Int),L),((0:Int),[]),((0:Int),(0:Int)),(k:Int)-1)) (by simp [BIG];omega) ⟨k,L,rfl,hk,hS⟩) fun b hbb => ?_
 rotate_left
 ·rw [hbb.1,hbb.2 k L rfl]
 ·obtain ⟨k,L,rfl,hk,hS⟩:=hx
  simp only at hs ⊢
  have uniq:∀{k':Nat} {L':List Led} ,((((n:Int),L),((0:Int),[]),((0:Int),(0:Int)),(k:Int)-1):(Int × List Led) × (Int × List Led) × (Int × Int) × Int)=(((n:Int),L'),((0:Int),[]),((0:Int),(0:Int)),(k':Int)-1)->k'=k/\L'=L:=by
   intro k' L' h
   simp only [Prod.mk.injEq,true_and] at h
   exact ⟨by omega,h.1.symm⟩
  cases k with
  | zero=>
   rw [decide_eq_false (by omega),cond_false,Option.bind_some,cond_false]
   refine ⟨_,rfl,fun k' L' h => ?_⟩
   obtain ⟨rfl,rfl⟩:=uniq h
   rfl
  | succ k=>
   have hlev:((k+1:Nat):Int)-1=(k:Int):=by omega
   rw [hlev,decide_eq_true (by omega),cond_true,Option.bind_some,cond_true,w_look hS.gr ha hb (by omega) (by omega),Option.bind_some]
   cases hsc:(sch n L e (k:Int)).2 with
   | none=>
    simp only [cond_false]
    rw [wr (by omega) (by omega)]
    obtain ⟨b,g1,g2⟩:=hs (((n:Int),(sch n L e (k:Int)).1),((0:Int),[]),((0:Int),(0:Int)),(k:Int)-1) ⟨k,_,rfl,by omega,hS.sch hsc⟩ (by simp only;omega)
    refine ⟨b,g1,fun k' L' h => ?_⟩
    rw [<-hlev] at h
    obtain ⟨rfl,rfl⟩:=uniq h
    rw [g2 k _ rfl]
    show _=lvR n (match (sch n L' e (k:Int)).2 with|none=>_|some (_,y)=>_)
    rw [hsc]
   | some r=>
    obtain ⟨j,y⟩:=r
    simp only [cond_true]
    refine ⟨_,rfl,fun k' L' h => ?_⟩
    rw [<-hlev] at h
    obtain ⟨rfl,rfl⟩:=uniq h
    show _=lvR n (match (sch n L' e (k:Int)).2 with|none=>_|some (_,y)=>_)
    rw [hsc]
    rfl
theorem lv_s (k:Nat) (hk:k<=5) (L:List Led) (hS:SOk n L):loopT BIG (fun self18 x17=>
  bif decide ((0:Int)<=x17.2.2.2) then
   Option.bind (g_sl08Search (x17.1,e,x17.2.2.2)) fun r19=>
   bif decide ((0:Int)<=r19.1.2) then
    bnd r19.1.1.length r19.1.2 fun n20=>
    Option.bind r19.1.1[n20]? fun y21=>
    bnd r19.1.1.length r19.1.2 fun n22=>
    Option.bind r19.1.1[n22]? fun y23=>
    some (Sum.inr ((x17.1.1,r19.1.1),(y21.1,y23.2.1),true,true))
   else self18 ((x17.1.1,r19.1.1),x17.2.1,x17.2.2.1,IntKind.wrap .i64 (x17.2.2.2-(1:Int)))
  else some (Sum.inl (x17.1,x17.2.1,x17.2.2.1))) ((((n:Int),L),((0:Int),[]),((0:Int),(0:Int)),(k:Int)-1):(Int × List Led) × (Int × List Led) × (Int × Int) × Int)=some (lvR n (tkRw n e k L)):=by
 have hm:maxLen=9223372036854775807:=by decide
 refine Exists.elim (loop_rel (F:=fun self18 x17=>
  bif decide ((0:Int)<=x17.2.2.2) then
   Option.bind (g_sl08Search (x17.1,e,x17.2.2.2)) fun r19=>
   bif decide ((0:Int)<=r19.1.2) then
    bnd r19.1.1.length r19.1.2 fun n20=>
    Option.bind r19.1.1[n20]? fun y21=>
    bnd r19.1.1.length r19.1.2 fun n22=>
    Option.bind r19.1.1[n22]? fun y23=>
    some (Sum.inr ((x17.1.1,r19.1.1),(y21.1,y23.2.1),true,true))
   else self18 ((x17.1.1,r19.1.1),x17.2.1,x17.2.2.1,IntKind.wrap .i64 (x17.2.2.2-(1:Int)))
  else some (Sum.inl (x17.1,x17.2.1,x17.2.2.1))) (fun (x:(Int × List Led) × (Int × List Led) × (Int × Int) × Int)=>∃(k:Nat) (L:List Led),x=(((n:Int),L),((0:Int),[]),((0:Int),(0:Int)),(k:Int)-1)/\k<=5/\SOk n L) (fun x=>(x.2.2.2+1).toNat)
  (fun x b=>∀(k:Nat) (L:List Led),x=(((n:Int),L),((0:Int),[]),((0:Int),(0:Int)),(k:Int)-1)->b=lvR n (tkRw n e k L)) (fun self x hx hs => ?_) (n:=BIG) (x:=(((n:Int),L),((0:Int),[]),((0:Int),(0:Int)),(k:Int)-1)) (by simp [BIG];omega) ⟨k,L,rfl,hk,hS⟩) fun b hbb => ?_
 rotate_left
 ·rw [hbb.1,hbb.2 k L rfl]
 ·obtain ⟨k,L,rfl,hk,hS⟩:=hx
  simp only at hs ⊢
  have uniq:∀{k':Nat} {L':List Led} ,((((n:Int),L),((0:Int),[]),((0:Int),(0:Int)),(k:Int)-1):(Int × List Led) × (Int × List Led) × (Int × Int) × Int)=(((n:Int),L'),((0:Int),[]),((0:Int),(0:Int)),(k':Int)-1)->k'=k/\L'=L:=by
   intro k' L' h
   simp only [Prod.mk.injEq,true_and] at h
   exact ⟨by omega,h.1.symm⟩
  cases k with
  | zero=>
   rw [decide_eq_false (by omega),cond_false]
   refine ⟨_,rfl,fun k' L' h => ?_⟩
   obtain ⟨rfl,rfl⟩:=uniq h
   rfl
  | succ k=>
   have hlev:((k+1:Nat):Int)-1=(k:Int):=by omega
   rw [hlev,decide_eq_true (by omega),cond_true,w_search hS.gr ha hb (by omega) (by omega) (hS.nc.sub (at_tr L k)),Option.bind_some]
   cases hsc:(sch n L e (k:Int)).2 with
   | none=>
    simp only
    rw [decide_eq_false (by omega),cond_false,wr (by omega) (by omega)]
    obtain ⟨b,g1,g2⟩:=hs (((n:Int),(sch n L e (k:Int)).1),((0:Int),[]),((0:Int),(0:Int)),(k:Int)-1) ⟨k,_,rfl,by omega,hS.sch hsc⟩ (by simp only;omega)
    refine ⟨b,g1,fun k' L' h => ?_⟩
    rw [<-hlev] at h
    obtain ⟨rfl,rfl⟩:=uniq h
    rw [g2 k _ rfl]
    show _=lvR n (match (sch n L' e (k:Int)).2 with|none=>_|some (_,y)=>_)
    rw [hsc]
   | some r=>
    obtain ⟨j,y⟩:=r
    have hj:(sch n L e (k:Int)).1[j]?=some y:=lkw_hit hsc
    have hjl:=(List.getElem?_eq_some_iff.1 hj).1
    have bj:∀{B:Type} {q:Nat->Option B},bnd (sch n L e (k:Int)).1.length (j:Int) q=q j:=fun {B q}=>bnd_nat hjl
    simp only
    rw [decide_eq_true (by omega),cond_true]
    simp only [bj,hj,Option.bind_some]
    refine ⟨_,rfl,fun k' L' h => ?_⟩
    rw [<-hlev] at h
    obtain ⟨rfl,rfl⟩:=uniq h
    show _=lvR n (match (sch n L' e (k:Int)).2 with|none=>_|some (_,y)=>_)
    rw [hsc]
    rfl
end
theorem w_WebTake (n : Int) (L : List Led) (e : Ed) (hL : L.length ≤ 1000000) : ∃ r : Int × List Led × Int × Int × Bool × Bool, g_iWebTake ((n, L), e) = some (r, ()) ∧ g_sWebTake ((n, L), e) = some (r, ()) ∧ r.2.1.length ≤ 66 ∧ (¬ (0 ≤ n ∧ WOk n.toNat L ∧ e ∈ gE L) → r = (0, [], 0, 0, false, false)) ∧ ((0 ≤ n ∧ WOk n.toNat L ∧ e ∈ gE L) → ∃ old, old ∈ L ∧ (old.1, old.2.1) = e ∧ r.1 = n ∧ r.2.2.2.2.2 = true ∧ r.2.1 = if old.2.2.2 = true then (tkRw n.toNat e (old.2.2.1.toNat + 1) (L.filter fun y => decide ((y.1, y.2.1) ≠ e))).1 else L.filter fun y => decide ((y.1, y.2.1) ≠ e)) := by
  have hm : maxLen = 9223372036854775807 := by decide
  have hgl : (gE L).length = L.length := by unfold gE; rw [List.length_map]
  have hGi : g_iGraphOf (n, L) = some ((n, gE L), ()) := h_iGraphOf n L (by omega)
  have hGs : g_sGraphOf (n, L) = some ((n, gE L), ()) := h_sGraphOf n L (by omega)
  obtain ⟨b, b1, b2⟩ := w_iWebOk n L (by omega)
  obtain ⟨b', b1', b2'⟩ := w_sWebOk n L (by omega)
  have hbb : b' = b := by cases b <;> cases b' <;> simp_all
  subst hbb
  show ∃ r : Int × List Led × Int × Int × Bool × Bool, f_iWebTake BIG _ = _ ∧ f_sWebTake BIG _ = _ ∧ _
  rw [e_iWebTake, e_sWebTake, b1, b1', Option.bind_some, Option.bind_some, hGi, hGs]
  cases b' with
  | false => exact ⟨_, rfl, rfl, by simp, fun _ => rfl, fun h => absurd (b2.2 ⟨h.1, h.2.1⟩) (by simp)⟩
  | true =>
    obtain ⟨n0, hw⟩ := b2.1 rfl
    obtain ⟨m, rfl⟩ : ∃ m : Nat, n = (m : Int) := ⟨n.toNat, by omega⟩
    rw [Int.toNat_natCast] at hw
    have hg := hw.gr
    obtain ⟨h1, h12⟩ := gr_n hg
    obtain ⟨hgE, hgn, hL6⟩ := gr_e hg
    simp only [Bool.not_true, cond_false, Option.bind_some]
    rw [h_iHasEdge _ _ _ (by omega), h_sHasEdge _ _ _ (by omega), Option.bind_some, Option.bind_some]
    by_cases hin : e ∈ gE L
    case neg =>
      rw [decide_eq_false hin]
      exact ⟨_, rfl, rfl, by simp, fun _ => rfl, fun h => absurd h.2.2 hin⟩
    rw [decide_eq_true hin]
    simp only [Bool.not_true, cond_false, Option.bind_some]
    have her := edB_in (hgE e hin)
    -- the lost one and the others
    have li : loopT BIG (fun self5 x4 =>
    bif decide (x4.2.2 < (L.length : Int)) then
     Option.bind (bnd L.length x4.2.2 fun n6 =>
      Option.bind L[n6]? fun y7 =>
      Option.bind (bif decide (y7.1 = e.1) then
        some (decide (y7.2.1 = e.2))
       else some false : Option (Bool)) fun x8 =>
      bif x8 then
       some (y7, x4.2.1)
      else bif decide (x4.2.1.2.length + [y7].length ≤ 4294967296) then
       some (x4.1, (x4.2.1.1, x4.2.1.2 ++ [y7]))
      else none : Option ((Int × Int × Int × Bool) × (Int × List (Int × Int × Int × Bool)))) fun x9 =>
     self5 (x9.1, x9.2, IntKind.wrap .i64 (x4.2.2 + (1 : Int)))
    else some (x4.1, x4.2.1)) ((((0 : Int), (0 : Int), (0 : Int), false), ((m : Int), []), (0 : Int)) : Led × (Int × List Led) × Int) = some ((L.foldl (rmS e) (((0 : Int), (0 : Int), (0 : Int), false), [])).1, ((m : Int), (L.foldl (rmS e) (((0 : Int), (0 : Int), (0 : Int), false), [])).2)) := by
      refine loop_eq (fun (x : Led × (Int × List Led) × Int) => ∃ i : Nat, i ≤ L.length ∧ x = (((L.take i).foldl (rmS e) (((0 : Int), (0 : Int), (0 : Int), false), [])).1, ((m : Int), ((L.take i).foldl (rmS e) (((0 : Int), (0 : Int), (0 : Int), false), [])).2), (i : Int))) (fun x => L.length - x.2.2.toNat) (fun _ => _) (fun self x ⟨i, h1, h2⟩ hs => ?_) (n := BIG) (x := _) (by simp [BIG]; omega) ⟨0, by omega, rfl⟩
      subst h2
      simp only
      by_cases hi : i < L.length
      · have hfl := rm_len e L i
        simp only [show ((i : Int) < (L.length : Int)) from by omega, decide_true, cond_true]
        rw [bnd_nat hi, List.getElem?_eq_getElem hi, Option.bind_some, wr1 (by omega)]
        have hst : (L.take (i + 1)).foldl (rmS e) (((0 : Int), (0 : Int), (0 : Int), false), []) = rmS e ((L.take i).foldl (rmS e) (((0 : Int), (0 : Int), (0 : Int), false), [])) L[i] := by
          rw [List.take_succ_eq_append_getElem hi, List.foldl_append]; rfl
        have hn := hs (((L.take (i + 1)).foldl (rmS e) (((0 : Int), (0 : Int), (0 : Int), false), [])).1, ((m : Int), ((L.take (i + 1)).foldl (rmS e) (((0 : Int), (0 : Int), (0 : Int), false), [])).2), ((i + 1 : Nat) : Int)) ⟨i + 1, hi, rfl⟩ (by simp; omega)
        rw [hst] at hn
        unfold rmS at hn
        by_cases c1 : L[i].1 = e.1
        · rw [decide_eq_true c1, cond_true, Option.bind_some]
          by_cases c2 : L[i].2.1 = e.2
          · rw [decide_eq_true c2, cond_true, Option.bind_some]
            rw [if_pos ⟨c1, c2⟩] at hn
            exact hn
          · rw [decide_eq_false c2, cond_false, decide_eq_true (by simp only [List.length_cons, List.length_nil]; omega), cond_true, Option.bind_some]
            rw [if_neg (fun h => c2 h.2)] at hn
            exact hn
        · rw [decide_eq_false c1, cond_false, Option.bind_some, cond_false, decide_eq_true (by simp only [List.length_cons, List.length_nil]; omega), cond_true, Option.bind_some]
          rw [if_neg (fun h => c1 h.1)] at hn
          exact hn
      · simp only [show ¬ ((i : Int) < (L.length : Int)) from by omega, decide_false, cond_false]
        have : i = L.length := by omega
        subst this
        rw [List.take_length]
    have ls : loopT BIG (fun self5 x4 =>
    bif decide (x4.2.2 < (L.length : Int)) then
     Option.bind (Option.bind (bnd L.length x4.2.2 fun n6 =>
       Option.bind L[n6]? fun y7 =>
       bif decide (y7.1 = e.1) then
        bnd L.length x4.2.2 fun n8 =>
        Option.bind L[n8]? fun y9 =>
        some (decide (y9.2.1 = e.2))
       else some false : Option (Bool)) fun x10 =>
      bif x10 then
       bnd L.length x4.2.2 fun n11 =>
       Option.bind L[n11]? fun y12 =>
       some (y12, x4.2.1)
      else bnd L.length x4.2.2 fun n13 =>
      Option.bind L[n13]? fun y14 =>
      bif decide (x4.2.1.2.length + [y14].length ≤ 4294967296) then
       some (x4.1, (x4.2.1.1, x4.2.1.2 ++ [y14]))
      else none : Option ((Int × Int × Int × Bool) × (Int × List (Int × Int × Int × Bool)))) fun x15 =>
     self5 (x15.1, x15.2, IntKind.wrap .i64 (x4.2.2 + (1 : Int)))
    else some (x4.1, x4.2.1)) ((((0 : Int), (0 : Int), (0 : Int), false), ((m : Int), []), (0 : Int)) : Led × (Int × List Led) × Int) = some ((L.foldl (rmS e) (((0 : Int), (0 : Int), (0 : Int), false), [])).1, ((m : Int), (L.foldl (rmS e) (((0 : Int), (0 : Int), (0 : Int), false), [])).2)) := by
      refine loop_eq (fun (x : Led × (Int × List Led) × Int) => ∃ i : Nat, i ≤ L.length ∧ x = (((L.take i).foldl (rmS e) (((0 : Int), (0 : Int), (0 : Int), false), [])).1, ((m : Int), ((L.take i).foldl (rmS e) (((0 : Int), (0 : Int), (0 : Int), false), [])).2), (i : Int))) (fun x => L.length - x.2.2.toNat) (fun _ => _) (fun self x ⟨i, h1, h2⟩ hs => ?_) (n := BIG) (x := _) (by simp [BIG]; omega) ⟨0, by omega, rfl⟩
      subst h2
      simp only
      by_cases hi : i < L.length
      · have hfl := rm_len e L i
        have bi : ∀ {B : Type} {q : Nat → Option B}, bnd L.length (i : Int) q = q i := fun {B q} => bnd_nat hi
        simp only [show ((i : Int) < (L.length : Int)) from by omega, decide_true, cond_true, bi, List.getElem?_eq_getElem hi, Option.bind_some]
        rw [wr1 (by omega)]
        have hst : (L.take (i + 1)).foldl (rmS e) (((0 : Int), (0 : Int), (0 : Int), false), []) = rmS e ((L.take i).foldl (rmS e) (((0 : Int), (0 : Int), (0 : Int), false), [])) L[i] := by
          rw [List.take_succ_eq_append_getElem hi, List.foldl_append]; rfl
        have hn := hs (((L.take (i + 1)).foldl (rmS e) (((0 : Int), (0 : Int), (0 : Int), false), [])).1, ((m : Int), ((L.take (i + 1)).foldl (rmS e) (((0 : Int), (0 : Int), (0 : Int), false), [])).2), ((i + 1 : Nat) : Int)) ⟨i + 1, hi, rfl⟩ (by simp; omega)
        rw [hst] at hn
        unfold rmS at hn
        by_cases c1 : L[i].1 = e.1
        · rw [decide_eq_true c1, cond_true, Option.bind_some]
          by_cases c2 : L[i].2.1 = e.2
          · rw [decide_eq_true c2, cond_true, Option.bind_some]
            rw [if_pos ⟨c1, c2⟩] at hn
            exact hn
          · rw [decide_eq_false c2, cond_false, decide_eq_true (by simp only [List.length_cons, List.length_nil]; omega), cond_true, Option.bind_some]
            rw [if_neg (fun h => c2 h.2)] at hn
            exact hn
        · rw [decide_eq_false c1, cond_false, Option.bind_some, cond_false, decide_eq_true (by simp only [List.length_cons, List.length_nil]; omega), cond_true, Option.bind_some]
          rw [if_neg (fun h => c1 h.1)] at hn
          exact hn
      · simp only [show ¬ ((i : Int) < (L.length : Int)) from by omega, decide_false, cond_false]
        have : i = L.length := by omega
        subst this
        rw [List.take_length]
    rw [li, ls, Option.bind_some, Option.bind_some]
    obtain ⟨s1, s2, s3⟩ := rm_spec e L (((0 : Int), (0 : Int), (0 : Int), false)) []
    have hold := s3 (by
      obtain ⟨y, hy, hye⟩ := List.mem_map.1 hin
      exact ⟨y, hy, hye⟩)
    rw [List.nil_append] at s1
    generalize L.foldl (rmS e) (((0 : Int), (0 : Int), (0 : Int), false), []) = S at s1 hold
    obtain ⟨old, rest⟩ := S
    simp only at s1 hold ⊢
    obtain ⟨hold, holde⟩ := hold
    have hyes : 0 ≤ (m : Int) ∧ WOk (m : Int).toNat L ∧ e ∈ gE L := ⟨n0, by rw [Int.toNat_natCast]; exact hw, hin⟩
    have hsub : rest.Sublist L := by rw [s1]; exact List.filter_sublist
    have hrl := hsub.length_le
    have hgr : grB m (gE rest) = true := by
      have hsE : (gE rest).Sublist (gE L) := List.Sublist.map _ hsub
      have hsrt : Srt (gE L) := by
        have h := hg
        unfold grB at h
        rw [Bool.and_eq_true] at h
        exact (eOk_srt h.2).2.1
      have hG : GrOk (m : Int) (gE rest) := ⟨by omega, by omega, List.Pairwise.sublist hsE hsrt, fun x hx => hgE x (hsE.subset hx)⟩
      unfold grB
      rw [show inB (m : Int) 1 12 = true from inB_t.2 (by omega), eOk_of hG (by unfold gE; rw [List.length_map]; omega)]
      rfl
    have htr : NoCyc (trE rest) := by
      have : NoCyc (trE L) := by rw [trE_0 hw.lv]; exact hw.nc
      exact this.sub fun x hx => (List.Sublist.map _ (List.Sublist.filter _ hsub)).subset hx
    have hlv := hw.lv old hold
    cases ht : old.2.2.2 with
    | false =>
      have h0 : ∀ x : Int, (bif decide ((0 : Int) ≤ x) then some false else some false : Option Bool) = some false := fun x => by cases decide ((0 : Int) ≤ x) <;> rfl
      refine ⟨((m : Int), rest, (0 : Int), (0 : Int), false, true), ?_, rfl, by simp only; omega, fun h => absurd hyes h, fun _ => ⟨old, hold, holde, rfl, rfl, by rw [if_neg (by rw [ht]; simp)]; exact s1⟩⟩
      have : loopT BIG (fun (self12 : (Int × List Led) × (Int × List Led) × (Int × Int) × Int → Option (((Int × List Led) × (Int × List Led) × (Int × Int)) ⊕ ((Int × List Led) × (Int × Int) × Bool × Bool))) x11 =>
    Option.bind (bif decide ((0 : Int) ≤ x11.2.2.2) then
      some false
     else some false : Option (Bool)) fun x13 =>
    bif x13 then
     Option.bind (g_iWeb_look (x11.1, e, x11.2.2.2)) fun r14 =>
     bif r14.1.2.2 then
      some (Sum.inr (r14.2, (r14.1.1, r14.1.2.1), true, true))
     else self12 (r14.2, x11.2.1, x11.2.2.1, IntKind.wrap .i64 (x11.2.2.2 - (1 : Int)))
    else some (Sum.inl (x11.1, x11.2.1, x11.2.2.1))) ((((m : Int), rest), ((0 : Int), []), ((0 : Int), (0 : Int)), old.2.2.1) : (Int × List Led) × (Int × List Led) × (Int × Int) × Int) = some (Sum.inl (((m : Int), rest), ((0 : Int), []), ((0 : Int), (0 : Int)))) := by
        refine loop_eq (fun x => x = ((((m : Int), rest), ((0 : Int), []), ((0 : Int), (0 : Int)), old.2.2.1) : (Int × List Led) × (Int × List Led) × (Int × Int) × Int)) (fun _ => 0) (fun _ => _) (fun self x hx hs => ?_) (n := BIG) (x := _) (by simp [BIG]) rfl
        subst hx
        rw [h0, Option.bind_some, cond_false]
      rw [this, Option.bind_some]
    | true =>
      have hlev : old.2.2.1 = ((old.2.2.1.toNat + 1 : Nat) : Int) - 1 := by omega
      have t1 := lv_i ⟨her.1, her.2.1⟩ ⟨her.2.2.1, her.2.2.2.1⟩ (old.2.2.1.toNat + 1) (by omega) rest ⟨hgr, htr⟩
      have t2 := lv_s ⟨her.1, her.2.1⟩ ⟨her.2.2.1, her.2.2.2.1⟩ (old.2.2.1.toNat + 1) (by omega) rest ⟨hgr, htr⟩
      rw [← hlev] at t1 t2
      simp only [Bool.not_true, cond_false]
      rw [t1, t2, Option.bind_some, Option.bind_some]
      have hl := tkRw_len m e (old.2.2.1.toNat + 1) rest
      rw [Int.toNat_natCast]
      subst s1
      generalize htk : tkRw m e (old.2.2.1.toNat + 1) (L.filter fun y => decide ((y.1, y.2.1) ≠ e)) = t at hl
      obtain ⟨M, o⟩ := t
      simp only at hl
      cases o with
      | none => exact ⟨_, rfl, rfl, by simp only; omega, fun h => absurd hyes h, fun _ => ⟨old, hold, holde, rfl, rfl, by rw [if_pos ht, htk]⟩⟩
      | some y => exact ⟨_, rfl, rfl, by simp only; omega, fun h => absurd hyes h, fun _ => ⟨old, hold, holde, rfl, rfl, by rw [if_pos ht, htk]⟩⟩
abbrev Wb:=Int × List Led
noncomputable def WT (W:Wb) (e:Ed):Int × List Led × Int × Int × Bool × Bool:=((g_iWebTake (W,e)).getD ((0,[],0,0,false,false),())).1
noncomputable def WA (W:Wb) (e:Ed):Int × List Led × Bool:=((g_iWebAdd (W,e)).getD ((0,[],false),())).1
theorem WT_ok {W:Wb} (e:Ed) (h:W.2.length<=1000000):g_iWebTake (W,e)=some (WT W e,())/\g_sWebTake (W,e)=some (WT W e,())/\(WT W e).2.1.length<=66:=by
 obtain ⟨n,L⟩:=W
 obtain ⟨r,h1,h2,h3,_⟩:=w_WebTake n L e h
 have:WT (n,L) e=r:=by unfold WT;rw [h1];rfl
 rw [this]
 exact ⟨h1,h2,h3⟩
theorem WA_ok {W:Wb} (e:Ed) (h:W.2.length<=1000000):g_iWebAdd (W,e)=some (WA W e,())/\g_sWebAdd (W,e)=some (WA W e,())/\(WA W e).2.1.length<=67:=by
 obtain ⟨n,L⟩:=W
 obtain ⟨r,h1,h2,h3,_⟩:=w_WebAdd n L e h
 have:WA (n,L) e=r:=by unfold WA;rw [h1];rfl
 rw [this]
 exact ⟨h1,h2,h3⟩
theorem h_icopyAnswer (y:An) (h1:y.2.2.1.length<=1048576) (h2:y.2.2.2.length<=1048576):g_icopyAnswer y=some (y,()):=by
 show f_icopyAnswer BIG _=_
 have hi:g_icopyInts y.2.2.2=some (y.2.2.2,()):=by
  show f_icopyInts BIG _=_
  rw [e_icopyInts,decide_eq_true (by omega)];rfl
 rw [e_icopyAnswer,h_icopyEdges _ h1,Option.bind_some,hi]
 rfl
theorem h_sl09CopyAnswer (y:An) (h1:y.2.2.1.length<=1048576) (h2:y.2.2.2.length<=1048576):g_sl09CopyAnswer y=some (y,()):=by
 show f_sl09CopyAnswer BIG _=_
 rw [e_sl09CopyAnswer,decide_eq_true (by omega),cond_true,decide_eq_true (by omega),cond_true]
 rfl
theorem h_icopyShard (x0 x1:Int) (L:List Led) (y:An) (hL:L.length<=1048576) (h1:y.2.2.1.length<=1048576) (h2:y.2.2.2.length<=1048576):g_icopyShard (x0,x1,L,y)=some ((x0,x1,L,y),()):=by
 show f_icopyShard BIG _=_
 have hw:g_icopyWeb (x1,L)=some ((x1,L),()):=by
  show f_icopyWeb BIG _=_
  rw [e_icopyWeb,decide_eq_true (by simp only;omega)];rfl
 rw [e_icopyShard]
 simp only [hw,Option.bind_some,h_icopyAnswer y h1 h2]
theorem h_sl10Copy (x0 x1:Int) (L:List Led) (y:An) (hL:L.length<=1048576) (h1:y.2.2.1.length<=1048576) (h2:y.2.2.2.length<=1048576):g_sl10Copy (x0,x1,L,y)=some ((x0,x1,L,y),()):=by
 show f_sl10Copy BIG _=_
 rw [e_sl10Copy,decide_eq_true (by simp only;omega),cond_true]
 simp only [h_sl09CopyAnswer y h1 h2,Option.bind_some,List.nil_append]
theorem w_Labels (n:Int) (L:List Led) (hL:L.length<=1048576):∃V,g_iWebLabels (n,L)=some (V,())/\g_sWebLabels (n,L)=some (V,())/\V.length<=12:=by
 by_cases hn:0<=n
 ·obtain ⟨m,rfl⟩:∃m:Nat,n=(m:Int):=⟨n.toNat,by omega⟩
  obtain ⟨V,v1,v2,v3⟩:=w_iWebLabels m L hL
  obtain ⟨V',v1',v2',v3'⟩:=w_sWebLabels m L hL
  by_cases hw:WOk m L
  ·have:=labs_len m (atE L 0)
   have:=(gr_n hw.gr).2
   rw [v2 hw] at v1
   rw [v2' hw] at v1'
   exact ⟨_,v1,v1',by omega⟩
  ·rw [v3 hw] at v1
   rw [v3' hw] at v1'
   exact ⟨_,v1,v1',by simp⟩
 ·obtain ⟨b,b1,b2⟩:=w_iWebOk n L hL
  obtain ⟨b',b1',b2'⟩:=w_sWebOk n L hL
  have e1:b=false:=by
   cases b with
   | false=>rfl
   | true=>exact absurd (b2.1 rfl).1 hn
  have e2:b'=false:=by
   cases b' with
   | false=>rfl
   | true=>exact absurd (b2'.1 rfl).1 hn
  subst e1 e2
  refine ⟨[],?_,?_,by simp⟩
  ·show f_iWebLabels BIG _=_
   rw [e_iWebLabels,b1]
   rfl
  ·show f_sWebLabels BIG _=_
   rw [e_sWebLabels,b1']
   rfl
noncomputable def reS (v:Int) (s:Wb × List Ed) (y:Ed):Wb × List Ed:=if y.1=v\/y.2=v then (((WT s.1 y).1,(WT s.1 y).2.1),s.2++[y]) else s
noncomputable def acS (s:Wb × Bool) (y:Ed):Wb × Bool:=(if (WA s.1 y).2.2=true then ((WA s.1 y).1,(WA s.1 y).2.1) else s.1,s.2&&(WA s.1 y).2.2)
theorem reS_len (v:Int):∀(es:List Ed) (s:Wb × List Ed),s.1.2.length<=1000000->(es.foldl (reS v) s).1.2.length<=1000000/\(es.foldl (reS v) s).2.length<=s.2.length+es.length
 | [],s,h=>⟨h,by simp⟩
 | y::es,s,h=>by
  rw [List.foldl_cons]
  have h1:=(WT_ok y h).2.2
  by_cases hc:y.1=v\/y.2=v
  ·have hs:reS v s y=(((WT s.1 y).1,(WT s.1 y).2.1),s.2++[y]):=by unfold reS;rw [if_pos hc]
   obtain ⟨a,b⟩:=reS_len v es (reS v s y) (by rw [hs];simp only;omega)
   refine ⟨a,?_⟩
   rw [hs] at b ⊢
   simp only [List.length_append,List.length_cons,List.length_nil] at b ⊢
   omega
  ·have hs:reS v s y=s:=by unfold reS;rw [if_neg hc]
   obtain ⟨a,b⟩:=reS_len v es (reS v s y) (by rw [hs];exact h)
   refine ⟨a,?_⟩
   rw [hs] at b ⊢
   simp only [List.length_cons]
   omega
theorem acS_len:∀(es:List Ed) (s:Wb × Bool),s.1.2.length<=1000000->(es.foldl acS s).1.2.length<=1000000
 | [],s,h=>h
 | y::es,s,h=>by
  rw [List.foldl_cons]
  have h1:=(WA_ok y h).2.2
  refine acS_len es _ ?_
  unfold acS
  simp only
  split
  ·simp only;omega
  ·exact h
theorem fold_take {α S:Type} (st:S->α->S) (s:S) {l:List α} {i:Nat} (hi:i<l.length):(l.take (i+1)).foldl st s=st ((l.take i).foldl st s) l[i]:=by
 rw [List.take_succ_eq_append_getElem hi,List.foldl_append];rfl
section
variable (x0 n:Int) (L:List Led) (y:An) (hL:L.length<=1000000)
include hL
theorem h_release (v:Int):g_iShard_release ((x0,n,L,y),v)=some (((gE L).foldl (reS v) ((n,L),[])).2,(x0,((gE L).foldl (reS v) ((n,L),[])).1.1,((gE L).foldl (reS v) ((n,L),[])).1.2,y)):=by
 have hm:maxLen=9223372036854775807:=by decide
 have hgl:(gE L).length=L.length:=by unfold gE;rw [List.length_map]
 have hO:g_iOwned (x0,n,L,y)=some (gE L,()):=h_iOwned x0 n L y.1 y.2.1 y.2.2.1 y.2.2.2 (by omega)
 show f_iShard_release BIG _=_
 rw [e_iShard_release,hO,Option.bind_some]
 generalize gE L=E at hgl
 have:loopT BIG (fun self2 x1=>
  bif decide (x1.2.2<(E.length:Int)) then
   Option.bind (bnd E.length x1.2.2 fun n3=>
    Option.bind E[n3]? fun y4=>
    Option.bind (bif decide (y4.1=v) then
     some true
     else some (decide (y4.2=v)):Option (Bool)) fun x5=>
    bif x5 then
     Option.bind (g_iWebTake ((x1.1.2.1,x1.1.2.2.1),y4)) fun r6=>
     bif decide (x1.2.1.length+[y4].length<=4294967296) then
      some ((x1.1.1,r6.1.1,r6.1.2.1,x1.1.2.2.2),x1.2.1++[y4])
     else none
    else some (x1.1,x1.2.1):Option ((Int × Int × List (Int × Int × Int × Bool) × Int × Bool × List (Int × Int) × List (Int)) × (List (Int × Int)))) fun x7=>
   self2 (x7.1,x7.2,IntKind.wrap .i64 (x1.2.2+(1:Int)))
  else some (x1.1,x1.2.1)) (((x0,n,L,y),[],(0:Int)):(Int × Int × List Led × An) × List Ed × Int)=some ((x0,(E.foldl (reS v) ((n,L),[])).1.1,(E.foldl (reS v) ((n,L),[])).1.2,y),(E.foldl (reS v) ((n,L),[])).2):=by
  refine loop_eq (fun (x:(Int × Int × List Led × An) × List Ed × Int)=>∃i:Nat,i<=E.length/\x=((x0,((E.take i).foldl (reS v) ((n,L),[])).1.1,((E.take i).foldl (reS v) ((n,L),[])).1.2,y),((E.take i).foldl (reS v) ((n,L),[])).2,(i:Int))) (fun x=>E.length-x.2.2.toNat) (fun _=>_) (fun self x ⟨i,h1,h2⟩ hs => ?_) (n:=BIG) (x:=_) (by simp [BIG];omega) ⟨0,by omega,rfl⟩
  subst h2
  simp only
  by_cases hi:i<E.length
  ·obtain ⟨l1,l2⟩:=reS_len v (E.take i) ((n,L),[]) hL
   rw [List.length_take] at l2
   simp only [List.length_nil] at l2
   have hn:=hs ((x0,((E.take (i+1)).foldl (reS v) ((n,L),[])).1.1,((E.take (i+1)).foldl (reS v) ((n,L),[])).1.2,y),((E.take (i+1)).foldl (reS v) ((n,L),[])).2,((i+1:Nat):Int)) ⟨i+1,hi,rfl⟩ (by simp;omega)
   rw [fold_take _ _ hi] at hn
   obtain ⟨t1,_,t3⟩:=WT_ok E[i] l1
   generalize (E.take i).foldl (reS v) ((n,L),[])=s at l1 l2 hn t1 t3
   obtain ⟨⟨a,M⟩,out⟩:=s
   simp only at l1 l2 t1 t3
   unfold reS at hn
   simp only [show ((i:Int)<(E.length:Int)) from by omega,decide_true,cond_true]
   rw [bnd_nat hi,List.getElem?_eq_getElem hi,Option.bind_some,wr1 (by omega)]
   have hc:(bif decide (E[i].1=v) then some true else some (decide (E[i].2=v)):Option Bool)=some (decide (E[i].1=v\/E[i].2=v)):=by
    by_cases c1:E[i].1=v<;>by_cases c2:E[i].2=v<;>simp [c1,c2]
   rw [hc,Option.bind_some]
   by_cases c:E[i].1=v\/E[i].2=v
   ·rw [decide_eq_true c,cond_true,t1,Option.bind_some,decide_eq_true (by simp only [List.length_cons,List.length_nil];omega),cond_true,Option.bind_some]
    rw [if_pos c] at hn
    exact hn
   ·rw [decide_eq_false c,cond_false,Option.bind_some]
    rw [if_neg c] at hn
    exact hn
  ·simp only [show ¬((i:Int)<(E.length:Int)) from by omega,decide_false,cond_false]
   have:i=E.length:=by omega
   subst this
   rw [List.take_length]
 rw [this,Option.bind_some]
theorem h_releaseS (v num:Int) (E:List Ed) (hE:E.length<=1000000):loopT BIG (fun self20 x19=>
   bif decide (x19.2.2<(E.length:Int)) then
    Option.bind (Option.bind (bnd E.length x19.2.2 fun n21=>
     Option.bind E[n21]? fun y22=>
     bif decide (y22.1=v) then
      some true
     else bnd E.length x19.2.2 fun n23=>
     Option.bind E[n23]? fun y24=>
     some (decide (y24.2=v)):Option (Bool)) fun x25=>
     bif x25 then
      bnd E.length x19.2.2 fun n26=>
      Option.bind E[n26]? fun y27=>
      Option.bind (g_sWebTake (x19.1,y27)) fun r28=>
      bnd E.length x19.2.2 fun n29=>
      Option.bind E[n29]? fun y30=>
      bif decide (x19.2.1.2.2.1.length+[y30].length<=4294967296) then
       some ((r28.1.1,r28.1.2.1),(x19.2.1.1,x19.2.1.2.1,x19.2.1.2.2.1++[y30],x19.2.1.2.2.2))
      else none
     else some (x19.1,x19.2.1):Option ((Int × List (Int × Int × Int × Bool)) × (Int × Bool × List (Int × Int) × List (Int)))) fun x31=>
    self20 (x31.1,x31.2,IntKind.wrap .i64 (x19.2.2+(1:Int)))
   else some (x19.1,x19.2.1)) (((n,L),(num,true,[],[]),(0:Int)):Wb × An × Int)=some ((E.foldl (reS v) ((n,L),[])).1,(num,true,(E.foldl (reS v) ((n,L),[])).2,[])):=by
 have hm:maxLen=9223372036854775807:=by decide
 refine loop_eq (fun (x:Wb × An × Int)=>∃i:Nat,i<=E.length/\x=(((E.take i).foldl (reS v) ((n,L),[])).1,(num,true,((E.take i).foldl (reS v) ((n,L),[])).2,[]),(i:Int))) (fun x=>E.length-x.2.2.toNat) (fun _=>_) (fun self x ⟨i,h1,h2⟩ hs => ?_) (n:=BIG) (x:=_) (by simp [BIG];omega) ⟨0,by omega,rfl⟩
 subst h2
 simp only
 by_cases hi:i<E.length
 ·obtain ⟨l1,l2⟩:=reS_len v (E.take i) ((n,L),[]) hL
  rw [List.length_take] at l2
  simp only [List.length_nil] at l2
  have hn:=hs (((E.take (i+1)).foldl (reS v) ((n,L),[])).1,(num,true,((E.take (i+1)).foldl (reS v) ((n,L),[])).2,[]),((i+1:Nat):Int)) ⟨i+1,hi,rfl⟩ (by simp;omega)
  rw [fold_take _ _ hi] at hn
  obtain ⟨_,t1,t3⟩:=WT_ok E[i] l1
  generalize (E.take i).foldl (reS v) ((n,L),[])=s at l1 l2 hn t1 t3
  obtain ⟨W,out⟩:=s
  simp only at l1 l2 t1 t3
  unfold reS at hn
  have bi:∀{B:Type} {q:Nat->Option B},bnd E.length (i:Int) q=q i:=fun {B q}=>bnd_nat hi
  simp only [show ((i:Int)<(E.length:Int)) from by omega,decide_true,cond_true,bi,List.getElem?_eq_getElem hi,Option.bind_some]
  rw [wr1 (by omega)]
  have hc:(bif decide (E[i].1=v) then some true else some (decide (E[i].2=v)):Option Bool)=some (decide (E[i].1=v\/E[i].2=v)):=by
   by_cases c1:E[i].1=v<;>by_cases c2:E[i].2=v<;>simp [c1,c2]
  rw [hc,Option.bind_some]
  by_cases c:E[i].1=v\/E[i].2=v
  ·rw [decide_eq_true c,cond_true,t1,Option.bind_some,decide_eq_true (by simp only [List.length_cons,List.length_nil];omega),cond_true,Option.bind_some]
   rw [if_pos c] at hn
   exact hn
  ·rw [decide_eq_false c,cond_false,Option.bind_some]
   rw [if_neg c] at hn
   exact hn
 ·simp only [show ¬((i:Int)<(E.length:Int)) from by omega,decide_false,cond_false]
  have:i=E.length:=by omega
  subst this
  rw [List.take_length]
theorem h_accept (E:List Ed) (hE:E.length<=1000000):g_iShard_accept ((x0,n,L,y),E)=some ((E.foldl acS ((n,L),true)).2,(x0,(E.foldl acS ((n,L),true)).1.1,(E.foldl acS ((n,L),true)).1.2,y)):=by
 have hm:maxLen=9223372036854775807:=by decide
 show f_iShard_accept BIG _=_
 rw [e_iShard_accept]
 have:loopT BIG (fun self1 x0=>
  bif decide (x0.2.2<(E.length:Int)) then
   Option.bind (bnd E.length x0.2.2 fun n2=>
    Option.bind E[n2]? fun y3=>
    Option.bind (g_iWebAdd ((x0.1.2.1,x0.1.2.2.1),y3)) fun r4=>
    Option.bind (bif r4.1.2.2 then
     some (x0.1.1,r4.1.1,r4.1.2.1,x0.1.2.2.2)
     else some x0.1:Option ((Int × Int × List (Int × Int × Int × Bool) × Int × Bool × List (Int × Int) × List (Int)))) fun x5=>
    Option.bind (bif x0.2.1 then
     some r4.1.2.2
     else some false:Option (Bool)) fun x6=>
    some (x5,x6):Option ((Int × Int × List (Int × Int × Int × Bool) × Int × Bool × List (Int × Int) × List (Int)) × Bool)) fun x7=>
   self1 (x7.1,x7.2,IntKind.wrap .i64 (x0.2.2+(1:Int)))
  else some (x0.1,x0.2.1)) (((x0,n,L,y),true,(0:Int)):(Int × Int × List Led × An) × Bool × Int)=some ((x0,(E.foldl acS ((n,L),true)).1.1,(E.foldl acS ((n,L),true)).1.2,y),(E.foldl acS ((n,L),true)).2):=by
  refine loop_eq (fun (x:(Int × Int × List Led × An) × Bool × Int)=>∃i:Nat,i<=E.length/\x=((x0,((E.take i).foldl acS ((n,L),true)).1.1,((E.take i).foldl acS ((n,L),true)).1.2,y),((E.take i).foldl acS ((n,L),true)).2,(i:Int))) (fun x=>E.length-x.2.2.toNat) (fun _=>_) (fun self x ⟨i,h1,h2⟩ hs => ?_) (n:=BIG) (x:=_) (by simp [BIG];omega) ⟨0,by omega,rfl⟩
  subst h2
  simp only
  by_cases hi:i<E.length
  ·have l1:=acS_len (E.take i) ((n,L),true) hL
   have hn:=hs ((x0,((E.take (i+1)).foldl acS ((n,L),true)).1.1,((E.take (i+1)).foldl acS ((n,L),true)).1.2,y),((E.take (i+1)).foldl acS ((n,L),true)).2,((i+1:Nat):Int)) ⟨i+1,hi,rfl⟩ (by simp;omega)
   rw [fold_take _ _ hi] at hn
   obtain ⟨t1,_,t3⟩:=WA_ok E[i] l1
   generalize (E.take i).foldl acS ((n,L),true)=s at l1 hn t1 t3
   obtain ⟨⟨a,M⟩,al⟩:=s
   simp only at l1 t1 t3
   unfold acS at hn
   simp only [show ((i:Int)<(E.length:Int)) from by omega,decide_true,cond_true]
   rw [bnd_nat hi,List.getElem?_eq_getElem hi,Option.bind_some,wr1 (by omega),t1,Option.bind_some]
   simp only at hn ⊢
   cases hok:(WA (a,M) E[i]).2.2 with
   | true=>
    rw [hok] at hn
    simp only [if_true,Bool.and_true] at hn
    cases al<;>exact hn
   | false=>
    rw [hok] at hn
    simp only [Bool.false_eq_true,if_false,Bool.and_false] at hn
    cases al<;>exact hn
  ·simp only [show ¬((i:Int)<(E.length:Int)) from by omega,decide_false,cond_false]
   have:i=E.length:=by omega
   subst this
   rw [List.take_length]
 rw [this,Option.bind_some]
theorem h_acceptS (num:Int) (E:List Ed) (hE:E.length<=1000000):loopT BIG (fun self7 x6=>
   bif decide (x6.2.2<(E.length:Int)) then
    Option.bind (bnd E.length x6.2.2 fun n8=>
     Option.bind E[n8]? fun y9=>
     Option.bind (g_sWebAdd (x6.1,y9)) fun r10=>
     Option.bind (bif r10.1.2.2 then
      some (r10.1.1,r10.1.2.1)
      else some x6.1:Option ((Int × List (Int × Int × Int × Bool)))) fun x11=>
     Option.bind (bif x6.2.1.2.1 then
      some (x6.2.1.1,r10.1.2.2,x6.2.1.2.2)
      else some (x6.2.1.1,false,x6.2.1.2.2):Option ((Int × Bool × List (Int × Int) × List (Int)))) fun x12=>
     some (x11,x12):Option ((Int × List (Int × Int × Int × Bool)) × (Int × Bool × List (Int × Int) × List (Int)))) fun x13=>
    self7 (x13.1,x13.2,IntKind.wrap .i64 (x6.2.2+(1:Int)))
   else some (x6.1,x6.2.1)) (((n,L),(num,true,[],[]),(0:Int)):Wb × An × Int)=some ((E.foldl acS ((n,L),true)).1,(num,(E.foldl acS ((n,L),true)).2,[],[])):=by
 have hm:maxLen=9223372036854775807:=by decide
 refine loop_eq (fun (x:Wb × An × Int)=>∃i:Nat,i<=E.length/\x=(((E.take i).foldl acS ((n,L),true)).1,(num,((E.take i).foldl acS ((n,L),true)).2,[],[]),(i:Int))) (fun x=>E.length-x.2.2.toNat) (fun _=>_) (fun self x ⟨i,h1,h2⟩ hs => ?_) (n:=BIG) (x:=_) (by simp [BIG];omega) ⟨0,by omega,rfl⟩
 subst h2
 simp only
 by_cases hi:i<E.length
 ·have l1:=acS_len (E.take i) ((n,L),true) hL
  have hn:=hs (((E.take (i+1)).foldl acS ((n,L),true)).1,(num,((E.take (i+1)).foldl acS ((n,L),true)).2,[],[]),((i+1:Nat):Int)) ⟨i+1,hi,rfl⟩ (by simp;omega)
  rw [fold_take _ _ hi] at hn
  obtain ⟨_,t1,t3⟩:=WA_ok E[i] l1
  generalize (E.take i).foldl acS ((n,L),true)=s at l1 hn t1 t3
  obtain ⟨W,al⟩:=s
  simp only at l1 t1 t3
  unfold acS at hn
  simp only [show ((i:Int)<(E.length:Int)) from by omega,decide_true,cond_true]
  rw [bnd_nat hi,List.getElem?_eq_getElem hi,Option.bind_some,wr1 (by omega),t1,Option.bind_some]
  simp only at hn ⊢
  cases hok:(WA W E[i]).2.2 with
  | true=>
   rw [hok] at hn
   simp only [if_true,Bool.and_true] at hn
   cases al<;>exact hn
  | false=>
   rw [hok] at hn
   simp only [Bool.false_eq_true,if_false,Bool.and_false] at hn
   cases al<;>exact hn
 ·simp only [show ¬((i:Int)<(E.length:Int)) from by omega,decide_false,cond_false]
  have:i=E.length:=by omega
  subst this
  rw [List.take_length]
end
theorem w_Obey (x0 n : Int) (L : List Led) (y : An) (o : Or') (hL : L.length ≤ 1048576) (h1 : y.2.2.1.length ≤ 1048576) (h2 : y.2.2.2.length ≤ 1048576) (ho : o.2.2.1.length ≤ 1048576) :
    ∃ (a b : Int) (M : List Led) (z z' : An) (e : Int), g_iObey ((x0, n, L, y), o) = some ((a, b, M, z.1, z.2.1, z.2.2.1, z.2.2.2, z'.1, z'.2.1, z'.2.2.1, z'.2.2.2, e), ()) ∧ g_sObey ((x0, n, L, y), o) = some ((a, b, M, z.1, z.2.1, z.2.2.1, z.2.2.2, z'.1, z'.2.1, z'.2.2.1, z'.2.2.2, e), ()) ∧ M.length ≤ 1048576 ∧ (z.2.2.1.length ≤ 1048576 ∧ z.2.2.2.length ≤ 1048576) ∧ (z'.2.2.1.length ≤ 1048576 ∧ z'.2.2.2.length ≤ 1048576) := by
  obtain ⟨b, b1, b2, b3⟩ := h_ShardOk x0 n L y hL h1 h2
  have hO1 := h_iOrderOk n o ho
  have hO2 := h_sOrderOk n o ho
  have rej : ∀ p q : Option ((Int × Int × List Led × Int × Bool × List Ed × List Int × Int × Bool × List Ed × List Int × Int) × Unit), p = some (((0 : Int), (0 : Int), [], (0 : Int), false, [], [], (0 : Int), false, [], [], (1 : Int)), ()) → q = some (((0 : Int), (0 : Int), [], (0 : Int), false, [], [], (0 : Int), false, [], [], (1 : Int)), ()) → ∃ (a b : Int) (M : List Led) (z z' : An) (e : Int), p = some ((a, b, M, z.1, z.2.1, z.2.2.1, z.2.2.2, z'.1, z'.2.1, z'.2.2.1, z'.2.2.2, e), ()) ∧ q = some ((a, b, M, z.1, z.2.1, z.2.2.1, z.2.2.2, z'.1, z'.2.1, z'.2.2.1, z'.2.2.2, e), ()) ∧ M.length ≤ 1048576 ∧ (z.2.2.1.length ≤ 1048576 ∧ z.2.2.2.length ≤ 1048576) ∧ (z'.2.2.1.length ≤ 1048576 ∧ z'.2.2.2.length ≤ 1048576) := fun p q h h' => ⟨0, 0, [], (0, false, [], []), (0, false, [], []), 1, h, h', by simp, by simp, by simp⟩
  show ∃ (a b : Int) (M : List Led) (z z' : An) (e : Int), f_iObey BIG _ = _ ∧ f_sObey BIG _ = _ ∧ _
  rw [e_iObey, e_sObey, b1, b2, Option.bind_some, Option.bind_some]
  cases b with
  | false => exact rej _ _ rfl rfl
  | true =>
    obtain ⟨c1, c2, c3, c4⟩ := b3.1 rfl
    have hL6 := (gr_e c3.gr).2.2
    have hgl : (gE L).length = L.length := by unfold gE; rw [List.length_map]
    simp only [Bool.not_true, cond_false, hO1, hO2, Option.bind_some]
    cases hob : ordB n o with
    | false => exact rej _ _ rfl rfl
    | true =>
      simp only [Bool.not_true, cond_false]
      by_cases hn : o.1 = y.1
      · rw [decide_eq_true hn, h_icopyShard x0 n L y hL h1 h2, h_sl10Copy x0 n L y hL h1 h2, h_icopyAnswer y h1 h2, h_sl09CopyAnswer y h1 h2]
        exact ⟨x0, n, L, y, y, 0, rfl, rfl, hL, ⟨h1, h2⟩, h1, h2⟩
      · rw [decide_eq_false hn]
        simp only [Bool.not_false, cond_true, Option.bind_some, cond_false]
        by_cases hw : o.1 = IntKind.wrap .i64 (y.1 + 1)
        case neg =>
          rw [decide_eq_false hw]
          exact rej _ _ rfl rfl
        rw [decide_eq_true hw]
        simp only [Bool.not_true, cond_false]
        rw [h_icopyShard x0 n L y hL h1 h2, Option.bind_some]
        simp only
        -- what follows every change
        have tail : ∀ (a : Int) (M : List Led) (ok : Bool) (es : List Ed) (p q : Option ((Int × Int × List Led × An) × An)) , p = some ((x0, a, M, y), (o.1, ok, es, [])) → ∀ q : Option ((Int × List Led) × An), q = some ((a, M), (o.1, ok, es, [])) → M.length ≤ 1000000 → es.length ≤ 1000000 →
            ∃ (a b : Int) (M : List Led) (z z' : An) (e : Int), (Option.bind p fun x11 =>
  Option.bind (g_iWebLabels (x11.1.2.1, x11.1.2.2.1)) fun r12 =>
  Option.bind (g_icopyAnswer (x11.2.1, x11.2.2.1, x11.2.2.2.1, r12.1)) fun r13 =>
  some ((x11.1.1, x11.1.2.1, x11.1.2.2.1, r13.1.1, r13.1.2.1, r13.1.2.2.1, r13.1.2.2.2, x11.2.1, x11.2.2.1, x11.2.2.2.1, r12.1, (0 : Int)), ())) = some ((a, b, M, z.1, z.2.1, z.2.2.1, z.2.2.2, z'.1, z'.2.1, z'.2.2.1, z'.2.2.2, e), ()) ∧ (Option.bind q fun x32 =>
  Option.bind (g_sWebLabels x32.1) fun r33 =>
  Option.bind (g_sl10Copy (x0, x32.1.1, x32.1.2, x32.2.1, x32.2.2.1, x32.2.2.2.1, r33.1)) fun r34 =>
  Option.bind (g_sl09CopyAnswer (x32.2.1, x32.2.2.1, x32.2.2.2.1, r33.1)) fun r35 =>
  some ((r34.1.1, r34.1.2.1, r34.1.2.2.1, r34.1.2.2.2.1, r34.1.2.2.2.2.1, r34.1.2.2.2.2.2.1, r34.1.2.2.2.2.2.2, r35.1.1, r35.1.2.1, r35.1.2.2.1, r35.1.2.2.2, (0 : Int)), ())) = some ((a, b, M, z.1, z.2.1, z.2.2.1, z.2.2.2, z'.1, z'.2.1, z'.2.2.1, z'.2.2.2, e), ()) ∧ M.length ≤ 1048576 ∧ (z.2.2.1.length ≤ 1048576 ∧ z.2.2.2.length ≤ 1048576) ∧ (z'.2.2.1.length ≤ 1048576 ∧ z'.2.2.2.length ≤ 1048576) := by
          intro a M ok es p _ hp q hq hM hes
          obtain ⟨V, v1, v2, v3⟩ := w_Labels a M (by omega)
          have i1 := h_icopyAnswer (o.1, ok, es, V) (by simp only; omega) (by simp only; omega)
          have i2 := h_sl10Copy x0 a M (o.1, ok, es, V) (by omega) (by simp only; omega) (by simp only; omega)
          have i3 := h_sl09CopyAnswer (o.1, ok, es, V) (by simp only; omega) (by simp only; omega)
          subst hp hq
          simp only [Option.bind_some, v1, v2, i1, i2, i3]
          exact ⟨x0, a, M, (o.1, ok, es, V), (o.1, ok, es, V), 0, rfl, rfl, by omega, ⟨by simp only; omega, by simp only; omega⟩, by simp only; omega, by simp only; omega⟩
        -- what the order says
        have hob' := hob
        unfold ordB at hob'
        simp only [Bool.and_eq_true] at hob'
        obtain ⟨_, _, d3, d4, d5⟩ := hob'
        have d3' := inB_t.1 d3
        have hol := eOk_len d4
        by_cases c2' : o.2.1 = 2
        · rw [if_neg (by omega), if_neg (by omega)] at d5
          simp only [Bool.and_eq_true, decide_eq_true_eq] at d5
          obtain ⟨e, he⟩ := List.length_eq_one_iff.1 d5.1
          obtain ⟨t1, t2, t3⟩ := WT_ok (W := (n, L)) e (by simp only; omega)
          rw [decide_eq_true c2', decide_eq_false (show ¬ o.2.1 = 1 from by omega), decide_eq_false (show ¬ o.2.1 = 4 from by omega), he]
          cases hk : (WT (n, L) e).2.2.2.2.2 with
          | true =>
            refine tail (WT (n, L) e).1 (WT (n, L) e).2.1 true [] _ none ?_ _ ?_ (by omega) (by simp)
            · show (Option.bind (g_iWebTake ((n, L), e)) _) = _
              rw [t1, Option.bind_some, hk]
              rfl
            · show (Option.bind (g_sWebTake ((n, L), e)) _) = _
              rw [t2, Option.bind_some, hk]
              rfl
          | false =>
            refine tail n L false [] _ none ?_ _ ?_ (by omega) (by simp)
            · show (Option.bind (g_iWebTake ((n, L), e)) _) = _
              rw [t1, Option.bind_some, hk]
              rfl
            · show (Option.bind (g_sWebTake ((n, L), e)) _) = _
              rw [t2, Option.bind_some, hk]
              rfl
        · by_cases c3' : o.2.1 = 3
          · rw [decide_eq_false c2', decide_eq_true c3', decide_eq_false (show ¬ o.2.1 = 1 from by omega), decide_eq_false (show ¬ o.2.1 = 4 from by omega)]
            have r1 := h_release x0 n L y (by omega) o.2.2.2
            have r2 := h_releaseS n L (by omega) o.2.2.2 o.1 (gE L) (by omega)
            obtain ⟨l1, l2⟩ := reS_len o.2.2.2 (gE L) ((n, L), []) (by simp only; omega)
            simp only [List.length_nil] at l2
            refine tail ((gE L).foldl (reS o.2.2.2) ((n, L), [])).1.1 ((gE L).foldl (reS o.2.2.2) ((n, L), [])).1.2 true ((gE L).foldl (reS o.2.2.2) ((n, L), [])).2 _ none ?_ _ ?_ l1 (by omega)
            · rw [cond_false, cond_true, r1]
              rfl
            · rw [cond_false, Option.bind_some, cond_false, cond_false, cond_true, h_sGraphOf n L (by omega), Option.bind_some]
              exact r2
          · rw [decide_eq_false c2', decide_eq_false c3']
            have r1 := h_accept x0 n L y (by omega) o.2.2.1 (by omega)
            have r2 := h_acceptS n L (by omega) o.1 o.2.2.1 (by omega)
            have l1 := acS_len o.2.2.1 ((n, L), true) (by simp only; omega)
            have hc : (bif decide (o.2.1 = (1 : Int)) then some true else some (decide (o.2.1 = (4 : Int))) : Option Bool) = some true := by
              by_cases h : o.2.1 = 1
              · rw [decide_eq_true h]; rfl
              · rw [decide_eq_false h, decide_eq_true (show o.2.1 = 4 from by omega)]; rfl
            refine tail (o.2.2.1.foldl acS ((n, L), true)).1.1 (o.2.2.1.foldl acS ((n, L), true)).1.2 (o.2.2.1.foldl acS ((n, L), true)).2 [] _ none ?_ _ ?_ l1 (by simp)
            · rw [cond_false, cond_false, r1]
              rfl
            · rw [hc, Option.bind_some, cond_true]
              exact r2
theorem lb_len {n:Int} {l:List Int} (h:lbOk n l=true):(l.length:Int)=n:=by
 unfold lbOk at h
 split at h
 ·assumption
 ·cases h
theorem HdF.rows {x0:Int} {x1:List Int} {x2:List Ed} {x3:List (List Int)} {x4:List Int} {x14:List Sd} (h:HdF x0 x1 x2 x3 x4 x14):∀y,y∈x3->y.length<=12:=by
 intro y hy
 obtain ⟨i,hi,rfl⟩:=List.getElem_of_mem hy
 have h1:=(h.o3 i hi).1
 rw [gD (List.getElem?_eq_getElem hi)] at h1
 have:=lb_len h1
 have:=h.n
 omega
theorem mkLoopB {α:Type} (hd:Int->α->Int->Prop) (C:Int) (hC:0<=C) (a:List α) (k0:Int) (hl:a.length<18446744073709551616) {m:Int} (hm:k0+C*(a.length:Int)<=m)
  {F:(List α × Int × Int->Option (List α × Int))->List α × Int × Int->Option (List α × Int)} {G:List α × Int->Option (Int × List α)}
  (hF:∀self out (i:Nat) (k:Int) y,i<a.length->out.length=a.length->out[i]?=some y->a[i]?=some y->k0<=k->k<=k0+C*i ->
   ∃z k',hd k z k'/\k<=k'/\k'<=k+C/\F self (out,k,(i:Int))=self (out.set i z,k',((i+1:Nat):Int)))
  (hE:∀self out k,out.length=a.length->F self (out,k,(a.length:Int))=some (out,k)) (hG:∀t c,G (t,c)=some (c,t)) :
  ∃t c,Option.bind (loopT BIG F (a,k0,0)) G=some (c,t)/\k0<=c/\c<=m:=by
 obtain ⟨t,c,e1,e2,e3,e4,e5⟩:=mkLoop hd C hC a k0 hl hF hE
 exact ⟨t,c,by rw [e1];exact hG t c,e4,by omega⟩
theorem mk_RecS (a:List (Int × Int × Int × Int × Int × Int × Int × Bool × List (Int × Int) × List (Int) × Int × Int × List (Int × Int) × Int)) (k:Int) (h0:0<=k) (hk:k+1407375068102656<=4611686018427380000) (hz:z_RecS a<=16777216):∃t c,g_lmarkRecS (a,k)=some (c,t)/\k<=c/\c<=k+1407375068102656:=by
 have hm:maxLen=9223372036854775807:=by decide
 have hl0:a.length<=16777216:=by unfold z_RecS at hz;omega
 have hC:k+83886091*(a.length:Int)<=k+1407375068102656:=by omega
 show ∃t c,f_lmarkRecS BIG _=some (c,t)/\_
 rw [e_lmarkRecS]
 refine mkLoopB hd_RecS 83886091 (by omega) a k (by omega) hC (by
  intro self out i k y hi hl hy hya hk0 hk1
  have hi':i<out.length:=by omega
  have hz':=z_RecS_mem (List.mem_of_getElem? hya)
  obtain ⟨t8,c8,m8,d8,l8,u8⟩:=mh_EdgeS y.2.2.2.2.2.2.2.2.1 (k+1+1+1+1+1+1+1+1) (by omega) (by omega) (by omega)
  obtain ⟨t9,c9,m9,d9,l9,u9⟩:=mh_IntS y.2.2.2.2.2.2.2.2.2.1 (c8) (by omega) (by omega) (by omega)
  obtain ⟨t12,c12,m12,d12,l12,u12⟩:=mh_EdgeS y.2.2.2.2.2.2.2.2.2.2.2.2.1 (c9+1+1) (by omega) (by omega) (by omega)
  have hb:k+1+1+1+1+1+1+1+1<=c8/\c8<=c9/\c9+1+1<=c12/\c12<=4611686018427387000:=⟨by omega,by omega,by omega,by omega⟩
  have hlt:(i:Int)<(a.length:Int):=by omega
  have hc:k<=c12+1/\c12+1<=k+83886091:=by omega
  have h1:IntKind.wrap .i64 ((i:Int)+1)=((i+1:Nat):Int):=wr1 (by omega)
  have hk':0<=k:=by omega
  obtain ⟨w0,w1,w2,w3,w4,w5,w6,w7,w8,w9,w10,n8,n9,n12⟩:=hw_RecS k c8 c9 c12 hk' hb
  refine ⟨(k,k+1,k+1+1,k+1+1+1,k+1+1+1+1,k+1+1+1+1+1,k+1+1+1+1+1+1,decide (Int.tmod (k+1+1+1+1+1+1+1) 3=0),t8,t9,c9,c9+1,t12,c12),c12+1,⟨c8,c9,c12,⟨rfl,rfl,rfl,rfl,rfl,rfl,rfl,rfl,rfl,rfl,rfl⟩,⟨d8,d9,d12⟩,hb,rfl,hk'⟩,hc.1,hc.2,?_⟩
  clear hz' hk0 hk1 hb hc hk' hya hk hz
  simp only [hl,hlt,decide_true,cond_true,List.length_set,bnd_nat hi,hy,List.getElem?_set_self hi',Option.bind_some,List.set_set,w0,w1,w2,w3,w4,w5,w6,w7,w8,w9,w10,m8,m9,m12,show decide ((3:Int)=0)=false from rfl,cond_false,and_true,h1]) (by
  intro self out k hl
  simp [hl]) (fun _ _=>rfl)
abbrev ShV:=Int × Int × List Led × An
abbrev ObV:=Int × Int × List Led × Int × Bool × List Ed × List Int × Int × Bool × List Ed × List Int × Int
noncomputable def OB (S:ShV) (o:Or'):ObV:=((g_iObey (S,o)).getD ((0,0,[],0,false,[],[],0,false,[],[],0),())).1
def shO (r:ObV):ShV:=(r.1,r.2.1,r.2.2.1,r.2.2.2.1,r.2.2.2.2.1,r.2.2.2.2.2.1,r.2.2.2.2.2.2.1)
def ShB (S:ShV):Prop:=S.2.2.1.length<=1048576/\S.2.2.2.2.2.1.length<=1048576/\S.2.2.2.2.2.2.length<=1048576
theorem OB_ok {S:ShV} {o:Or'} (h:ShB S) (ho:o.2.2.1.length<=1048576):g_iObey (S,o)=some (OB S o,())/\g_sObey (S,o)=some (OB S o,())/\ShB (shO (OB S o))/\(OB S o).2.2.2.2.2.2.2.2.2.1.length<=1048576/\(OB S o).2.2.2.2.2.2.2.2.2.2.1.length<=1048576:=by
 obtain ⟨x0,n,L,y⟩:=S
 obtain ⟨h1,h2,h3⟩:=h
 obtain ⟨a,b,M,z,z',e,w1,w2,lM,⟨l5,l6⟩,l7,l8⟩:=w_Obey x0 n L y o h1 h2 h3 ho
 have:OB (x0,n,L,y) o=(a,b,M,z.1,z.2.1,z.2.2.1,z.2.2.2,z'.1,z'.2.1,z'.2.2.1,z'.2.2.2,e):=by
  unfold OB
  rw [w1]
  rfl
 rw [this]
 exact ⟨w1,w2,⟨lM,l5,l6⟩,l7,l8⟩
def rcO (y:Rc):Or':=y.2.2.2.2.2.2.2.2.2.2
noncomputable def sfS (S:ShV) (y:Rc):Option ShV:=if y.1=3/\(OB S (rcO y)).2.2.2.2.2.2.2.2.2.2.2=0 then some (shO (OB S (rcO y))) else none
theorem sfS_b {S S':ShV} {y:Rc} (h:ShB S) (hy:y.2.2.2.2.2.2.2.2.2.2.2.2.1.length<=1048576) (e:sfS S y=some S'):ShB S':=by
 unfold sfS at e
 split at e
 ·cases e
  exact (OB_ok h hy).2.2.1
 ·cases e
theorem fM_sfS:∀(l:List Rc) (S S':ShV),(∀y,y∈l->y.2.2.2.2.2.2.2.2.2.2.2.2.1.length<=1048576)->ShB S->fM sfS S l=some S'->ShB S'
 | [],S,S',_,hs,e=>by
  simp only [fM,Option.some.injEq] at e
  rw [<-e];exact hs
 | y::l,S,S',hl,hs,e=>by
  rw [fM] at e
  cases hy:sfS S y with
  | none=>rw [hy] at e;cases e
  | some S1=>
   rw [hy] at e
   exact fM_sfS l S1 S' (fun z hz=>hl z (List.mem_cons_of_mem _ hz)) (sfS_b hs (hl y (List.mem_cons_self ..)) hy) e
noncomputable def sfO (a b:Int) (rs:List Rc):Option ShV:=if (inB a 1 3&&inB b 1 12)=true then fM sfS (a,b,[],0,false,[],[]) rs else none
def sfF (o:Option ShV):Int × Int × List Led × Int × Bool × List Ed × List Int × Bool:=match o with|none=>(0,0,[],0,false,[],[],false)|some S=>(S.1,S.2.1,S.2.2.1,S.2.2.2.1,S.2.2.2.2.1,S.2.2.2.2.2.1,S.2.2.2.2.2.2,true)
def RcO (rs:List Rc):Prop:=rs.length<=1048576/\∀y,y∈rs->y.2.2.2.2.2.2.2.2.2.2.2.2.1.length<=1048576
theorem rcO_of {rs:List Rc} (hz:z_RecS rs<=1048576):RcO rs:=by
 refine ⟨?_,fun y hy => ?_⟩
 ·unfold z_RecS at hz;omega
 ·have:=z_RecS_mem hy;omega
def zS:ShV:=(0,0,[],0,false,[],[])
theorem w_iShardFrom (a b:Int) (rs:List Rc) (hz:RcO rs):g_iShardFrom (a,b,rs)=some (sfF (sfO a b rs),()):=by
 have hm:maxLen=9223372036854775807:=by decide
 obtain ⟨hz1,hz2⟩:=hz
 show f_iShardFrom BIG _=_
 rw [e_iShardFrom,h_iShardNew,Option.bind_some]
 unfold sfO
 by_cases hc:(inB a 1 3&&inB b 1 12)=true
 case neg=>
  rw [if_neg hc,if_neg hc]
  rfl
 rw [if_pos hc,if_pos hc]
 simp only [Bool.not_true,cond_false]
 have hB0:ShB (a,b,[],0,false,[],[]):=⟨by simp,by simp,by simp⟩
 have key:=loop_rel (F:=fun (self2:ShV × ShV × Int->Option ((ShV × ShV) ⊕ (ShV × Bool))) (x1:ShV × ShV × Int)=>
  bif decide (x1.2.2<(rs.length:Int)) then
   Option.bind (bnd rs.length x1.2.2 fun n3=>
    Option.bind rs[n3]? fun y4=>
    Option.bind (g_iObey (x1.2.1,y4.2.2.2.2.2.2.2.2.2.2)) fun r5=>
    Option.bind (bif !decide (y4.1=(3:Int)) then
     some true
     else some (!decide (r5.1.2.2.2.2.2.2.2.2.2.2.2=(0:Int))):Option (Bool)) fun x6=>
    bif x6 then
     some (Sum.inr (((0:Int),(0:Int),[],(0:Int),false,[],[]),false))
    else some (Sum.inl (x1.1,(r5.1.1,r5.1.2.1,r5.1.2.2.1,r5.1.2.2.2.1,r5.1.2.2.2.2.1,r5.1.2.2.2.2.2.1,r5.1.2.2.2.2.2.2.1))):Option ((ShV × ShV) ⊕ (ShV × Bool))) fun y=>match y with
   | .inl x7=>
    self2 (x7.1,x7.2,IntKind.wrap .i64 (x1.2.2+(1:Int)))
   | .inr x7=>
    some (Sum.inr (x7.1,x7.2))
  else some (Sum.inl (x1.1,x1.2.1)))
  (fun x=>∃(i:Nat) (S:ShV),i<=rs.length/\x=(zS,S,(i:Int))/\ShB S) (fun x=>rs.length-x.2.2.toNat)
  (fun x r=>∀(i:Nat) (S:ShV),x=(zS,S,(i:Int))->r=(match fM sfS S (rs.drop i) with|none=>Sum.inr (zS,false)|some S'=>Sum.inl (zS,S')))
  (fun self x ⟨i,S,hi,hx,hS⟩ hs=>by
   subst hx
   simp only at hs ⊢
   have uniq:∀{i':Nat} {S':ShV},((zS,S,(i:Int)):ShV × ShV × Int)=(zS,S',(i':Int))->i'=i/\S'=S:=fun h=>by
    simp only [Prod.mk.injEq,true_and] at h
    exact ⟨by omega,h.1.symm⟩
   by_cases hl:i<rs.length
   ·have hy:=hz2 _ (List.getElem_mem hl)
    obtain ⟨o1,_,o3,_,_⟩:=OB_ok (S:=S) (o:=rcO rs[i]) hS (by exact hy)
    have hd:rs.drop i=rs[i]::rs.drop (i+1):=List.drop_eq_getElem_cons hl
    simp only [show ((i:Int)<(rs.length:Int)) from by omega,decide_true,cond_true]
    rw [bnd_nat hl,List.getElem?_eq_getElem hl,Option.bind_some,show rs[i].2.2.2.2.2.2.2.2.2.2=rcO rs[i] from rfl,o1,Option.bind_some,wr1 (by omega)]
    by_cases c1:rs[i].1=3
    ·by_cases c2:(OB S (rcO rs[i])).2.2.2.2.2.2.2.2.2.2.2=0
     ·rw [decide_eq_true c1,decide_eq_true c2]
      obtain ⟨r,g1,g2⟩:=hs (zS,shO (OB S (rcO rs[i])),((i+1:Nat):Int)) ⟨i+1,_,hl,rfl,o3⟩ (by simp;omega)
      refine ⟨r,g1,fun i' S' h => ?_⟩
      obtain ⟨rfl,rfl⟩:=uniq h
      rw [g2 _ _ rfl,hd,fM,show sfS S' rs[i']=some (shO (OB S' (rcO rs[i']))) from by unfold sfS;rw [if_pos ⟨c1,c2⟩]]
      rfl
     ·rw [decide_eq_true c1,decide_eq_false c2]
      refine ⟨_,rfl,fun i' S' h => ?_⟩
      obtain ⟨rfl,rfl⟩:=uniq h
      rw [hd,fM,show sfS S' rs[i']=none from by unfold sfS;rw [if_neg (fun h=>c2 h.2)]]
      rfl
    ·rw [decide_eq_false c1]
     refine ⟨_,rfl,fun i' S' h => ?_⟩
     obtain ⟨rfl,rfl⟩:=uniq h
     rw [hd,fM,show sfS S' rs[i']=none from by unfold sfS;rw [if_neg (fun h=>c1 h.1)]]
     rfl
   ·simp only [show ¬((i:Int)<(rs.length:Int)) from by omega,decide_false,cond_false]
    refine ⟨_,rfl,fun i' S' h => ?_⟩
    obtain ⟨rfl,rfl⟩:=uniq h
    have:i'=rs.length:=by omega
    subst this
    rw [List.drop_length,fM])
  (n:=BIG) (x:=(zS,(a,b,[],0,false,[],[]),((0:Nat):Int))) (by simp [BIG];omega) ⟨0,_,by omega,rfl,hB0⟩
 obtain ⟨r,g1,g2⟩:=key
 refine (bind_of g1 _).trans ?_
 rw [g2 0 _ rfl,List.drop_zero]
 cases fM sfS (a,b,[],0,false,[],[]) rs<;>rfl
theorem w_sShardFrom (a b:Int) (rs:List Rc) (hz:RcO rs):g_sShardFrom (a,b,rs)=some (sfF (sfO a b rs),()):=by
 have hm:maxLen=9223372036854775807:=by decide
 obtain ⟨hz1,hz2⟩:=hz
 show f_sShardFrom BIG _=_
 rw [e_sShardFrom,h_sShardNew,Option.bind_some]
 have key:∀(b0:Bool) (S0:ShV),ShB S0->_:=fun b0 S0 hB0=>loop_rel (F:=fun (self2:Bool × ShV × Int->Option (Bool × ShV)) (x1:Bool × ShV × Int)=>
  Option.bind (bif decide (x1.2.2<(rs.length:Int)) then
   some x1.1
   else some false:Option (Bool)) fun x3=>
  bif x3 then
   Option.bind (bnd rs.length x1.2.2 fun n4=>
    Option.bind rs[n4]? fun y5=>
    Option.bind (g_sObey (x1.2.1,y5.2.2.2.2.2.2.2.2.2.2)) fun r6=>
    Option.bind (bnd rs.length x1.2.2 fun n7=>
     Option.bind rs[n7]? fun y8=>
     bif decide (y8.1=(3:Int)) then
      some (decide (r6.1.2.2.2.2.2.2.2.2.2.2.2=(0:Int)))
     else some false:Option (Bool)) fun x9=>
    some (x9,(r6.1.1,r6.1.2.1,r6.1.2.2.1,r6.1.2.2.2.1,r6.1.2.2.2.2.1,r6.1.2.2.2.2.2.1,r6.1.2.2.2.2.2.2.1)):Option (Bool × ShV)) fun x10=>
   self2 (x10.1,x10.2,IntKind.wrap .i64 (x1.2.2+(1:Int)))
  else some (x1.1,x1.2.1))
  (fun x=>∃(i:Nat) (b:Bool) (S:ShV),i<=rs.length/\x=(b,S,(i:Int))/\ShB S) (fun x=>rs.length-x.2.2.toNat)
  (fun x r=>∀(i:Nat) (b:Bool) (S:ShV),x=(b,S,(i:Int))->match (if b=true then fM sfS S (rs.drop i) else none) with|none=>r.1=false|some S'=>r=(true,S'))
  (fun self x ⟨i,b,S,hi,hx,hS⟩ hs=>by
   subst hx
   simp only at hs ⊢
   have uniq:∀{i':Nat} {b':Bool} {S':ShV},((b,S,(i:Int)):Bool × ShV × Int)=(b',S',(i':Int))->b'=b/\i'=i/\S'=S:=fun h=>by
    simp only [Prod.mk.injEq] at h
    exact ⟨h.1.symm,by omega,h.2.1.symm⟩
   by_cases hl:i<rs.length
   ·have hy:=hz2 _ (List.getElem_mem hl)
    obtain ⟨_,o1,o3,_,_⟩:=OB_ok (S:=S) (o:=rcO rs[i]) hS (by exact hy)
    have hd:rs.drop i=rs[i]::rs.drop (i+1):=List.drop_eq_getElem_cons hl
    have bi:∀{B:Type} {q:Nat->Option B},bnd rs.length (i:Int) q=q i:=fun {B q}=>bnd_nat hl
    simp only [show ((i:Int)<(rs.length:Int)) from by omega,decide_true,cond_true,Option.bind_some]
    cases b with
    | false=>
     refine ⟨_,rfl,fun i' b' S' h => ?_⟩
     obtain ⟨rfl,rfl,rfl⟩:=uniq h
     rfl
    | true=>
     simp only [cond_true,bi,List.getElem?_eq_getElem hl,Option.bind_some]
     rw [show rs[i].2.2.2.2.2.2.2.2.2.2=rcO rs[i] from rfl,o1,Option.bind_some,wr1 (by omega)]
     by_cases c1:rs[i].1=3/\(OB S (rcO rs[i])).2.2.2.2.2.2.2.2.2.2.2=0
     ·rw [decide_eq_true c1.1,decide_eq_true c1.2]
      obtain ⟨r,g1,g2⟩:=hs (true,shO (OB S (rcO rs[i])),((i+1:Nat):Int)) ⟨i+1,_,_,hl,rfl,o3⟩ (by simp;omega)
      refine ⟨r,g1,fun i' b' S' h => ?_⟩
      obtain ⟨rfl,rfl,rfl⟩:=uniq h
      have:=g2 _ _ _ rfl
      rw [if_pos rfl] at this ⊢
      rw [hd,fM,show sfS S' rs[i']=some (shO (OB S' (rcO rs[i']))) from by unfold sfS;rw [if_pos c1]]
      exact this
     ·have hb:(bif decide (rs[i].1=(3:Int)) then some (decide ((OB S (rcO rs[i])).2.2.2.2.2.2.2.2.2.2.2=(0:Int))) else some false:Option Bool)=some false:=by
       by_cases c:rs[i].1=3
       ·rw [decide_eq_true c,decide_eq_false (fun h=>c1 ⟨c,h⟩)];rfl
       ·rw [decide_eq_false c];rfl
      rw [hb]
      obtain ⟨r,g1,g2⟩:=hs (false,shO (OB S (rcO rs[i])),((i+1:Nat):Int)) ⟨i+1,_,_,hl,rfl,o3⟩ (by simp;omega)
      refine ⟨r,g1,fun i' b' S' h => ?_⟩
      obtain ⟨rfl,rfl,rfl⟩:=uniq h
      have:=g2 _ _ _ rfl
      rw [if_neg (by simp)] at this
      rw [if_pos rfl,hd,fM,show sfS S' rs[i']=none from by unfold sfS;rw [if_neg c1]]
      exact this
   ·simp only [show ¬((i:Int)<(rs.length:Int)) from by omega,decide_false,cond_false,Option.bind_some]
    refine ⟨_,rfl,fun i' b' S' h => ?_⟩
    obtain ⟨rfl,rfl,rfl⟩:=uniq h
    have:i'=rs.length:=by omega
    subst this
    rw [List.drop_length,fM]
    cases b'<;>rfl)
  (n:=BIG) (x:=(b0,S0,((0:Nat):Int))) (by simp [BIG];omega) ⟨0,_,_,by omega,rfl,hB0⟩
 unfold sfO
 by_cases hc:(inB a 1 3&&inB b 1 12)=true
 ·rw [if_pos hc,if_pos hc]
  obtain ⟨r,g1,g2⟩:=key true (a,b,[],0,false,[],[]) ⟨by simp,by simp,by simp⟩
  refine (bind_of g1 _).trans ?_
  have:=g2 0 _ _ rfl
  rw [if_pos rfl,List.drop_zero] at this
  have hf:=fM_sfS rs (a,b,[],0,false,[],[])
  cases hS:fM sfS (a,b,[],0,false,[],[]) rs with
  | none=>
   rw [hS] at this
   simp only at this
   simp only [this,Bool.not_false,cond_true]
   rfl
  | some S'=>
   rw [hS] at this
   simp only at this
   obtain ⟨k1,k2,k3⟩:=hf S' (fun y hy=>hz2 y hy) ⟨by simp,by simp,by simp⟩ hS
   subst this
   obtain ⟨p0,p1,p2,p3⟩:=S'
   simp only [Bool.not_true,cond_false]
   rw [h_sl10Copy p0 p1 p2 p3 k1 k2 k3,Option.bind_some]
   rfl
 ·rw [if_neg hc,if_neg hc]
  obtain ⟨r,g1,g2⟩:=key false (0,0,[],0,false,[],[]) ⟨by simp,by simp,by simp⟩
  refine (bind_of g1 _).trans ?_
  have:=g2 0 _ _ rfl
  rw [if_neg (by simp)] at this
  simp only at this
  simp only [this,Bool.not_false,cond_true]
  rfl
theorem law_lFnExactShardFrom (a b:Int) (rs:List Rc) (qr:B_RecS rs):g_lFnExactShardFrom (a,b,rs)=some (true,()):=by
 show f_lFnExactShardFrom BIG _=_
 rw [e_lFnExactShardFrom]
 have hs:=sz_RecS rs 1048576 (by omega) (by omega) qr
 by_cases hz:((z_RecS rs:Nat):Int)<=1048576
 case neg=>
  rw [if_neg hz] at hs
  rw [hs];rfl
 rw [if_pos hz] at hs
 have hz':z_RecS rs<=1048576:=by omega
 have hR:=rcO_of hz'
 have wi:=w_iShardFrom a b rs hR
 have ws:=w_sShardFrom a b rs hR
 have hb:∃(x0 x1:Int) (x2:List Led) (x3:Int) (x4:Bool) (x5:List Ed) (x6:List Int) (x7:Bool),sfF (sfO a b rs)=(x0,x1,x2,x3,x4,x5,x6,x7)/\x2.length<=1048576/\x5.length<=1048576/\x6.length<=1048576:=by
  cases hS:sfO a b rs with
  | none=>exact ⟨_,_,_,_,_,_,_,_,rfl,by simp,by simp,by simp⟩
  | some S=>
   unfold sfO at hS
   split at hS
   ·obtain ⟨k1,k2,k3⟩:=fM_sfS rs _ S (fun y hy=>hR.2 y hy) ⟨by simp,by simp,by simp⟩ hS
    exact ⟨_,_,_,_,_,_,_,_,rfl,k1,k2,k3⟩
   ·cases hS
 obtain ⟨x0,x1,x2,x3,x4,x5,x6,x7,he,l2,l5,l6⟩:=hb
 rw [he] at wi ws
 obtain ⟨t,c,m,u,u'⟩:=mk_RecS rs 1 (by omega) (by omega) (by omega)
 obtain ⟨s2,s5,s6,k,mm,dd,ll,uu⟩:=mh_Shard x0 x1 x2 x3 x4 x5 x6 1 (by omega) (by omega) (by omega)
 simp only [hs,Option.bind_some,decide_eq_false (show ¬((1048576:Int)-((z_RecS rs:Nat):Int)<0) from by omega),cond_false,to_RecS rs hz',wi,ws,eq_Shard x0 x1 x2 x3 x4 x5 x6 (by omega),eq_RecS rs (by omega),beq_self_eq_true,Bool.not_true,m,mm,dd,neg_f u,neg_f ll,decide_true]
end Go.Fw
