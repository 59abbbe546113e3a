/- What the given functions come to. No conditions. -/
import Derived.Test.YtjjfihpihnifcaaGreatM0
set_option linter.unusedVariables false
set_option linter.unusedSimpArgs false
namespace Go.Fw
noncomputable def heOk (x0:Int) (x1:List Int) (x2:List Ed) (x3:List (List Int)) (x4:List Int) (x5 x6 x7 x8 x9 x10 x11:Int) (x12:List Ed) (x13:Int) (x14:List Sd) (sh:Int) (y:An):Bool:=
 hdB x0 x1 x2 x3 x4 x14 (tkB x0 x3.length x4 x14 x5 x6 x7 x8 x9 (x10,x11,x12,x13))&&(ansB x0 y&&(!decide (x9=0)&&(decide (sh=x9)&&decide (y.1=x10))))
def heM (x0:Int) (x1:List Int) (x2:List Ed) (x3:List (List Int)) (x4:List Int) (x14:List Sd) (i op a b q:Int) (ok:Bool) (es:List Ed):HdI:=
 if op=4 then (if q=3 then relT x0 x1 x2 x3 x4 x14 i op a b es else sayT x0 x1 x2 x3 x4 x14 i op a b 1)
 else sayT x0 x1 x2 x3 x4 x14 i op a b (if ok then 1 else 2)
noncomputable def heR (x0:Int) (x1:List Int) (x2:List Ed) (x3:List (List Int)) (x4:List Int) (x5 x6 x7 x8 x9 x10 x11:Int) (x12:List Ed) (x13:Int) (x14:List Sd) (sh:Int) (y:An):HdI:=
 if heOk x0 x1 x2 x3 x4 x5 x6 x7 x8 x9 x10 x11 x12 x13 x14 sh y=true then heM x0 x1 x2 (x3.set (sh-1).toNat y.2.2.2) (x4.set (sh-1).toNat y.1) x14 x5 x6 x7 x8 x11 y.2.1 y.2.2.1 else (x0,x1,x2,x3,x4,x5,x6,x7,x8,x9,x10,x11,x12,x13,x14,0)
theorem he_free {x0:Int} {x1:List Int} {x2:List Ed} {x3:List (List Int)} {x4:List Int} {x5 x6 x7 x8 x9 x10 x11:Int} {x12:List Ed} {x13:Int} {x14:List Sd} {sh:Int} {y:An} (h:heOk x0 x1 x2 x3 x4 x5 x6 x7 x8 x9 x10 x11 x12 x13 x14 sh y=true) :
  HdF x0 x1 x2 x3 x4 x14/\ansB x0 y=true/\sh=x9/\(1<=sh/\sh<=x3.length)/\rtB x0 x3.length x6 x7 x8=true:=by
 unfold heOk at h
 simp only [Bool.and_eq_true,decide_eq_true_eq,Bool.not_eq_true',decide_eq_false_iff_not] at h
 obtain ⟨h1,h2,h3,h4,h5⟩:=h
 obtain ⟨hF,ht⟩:=hd_F h1
 unfold tkB at ht
 rw [Bool.or_eq_true] at ht
 rcases ht with ht|ht
 ·unfold tB at ht
  simp only [Bool.and_eq_true,decide_eq_true_eq] at ht
  exact absurd ht.2.1 h3
 ·simp only [Bool.and_eq_true,inB_t] at ht
  exact ⟨hF,h2,h4,by rw [h4];exact ht.2.1,ht.1.2.2⟩
theorem getD_set_le {l:List Int} {i:Nat} {v:Int} (h:∀j,j<l.length->0<=l.getD j 0/\l.getD j 0<=1000000) (hv:0<=v/\v<=1000000):∀j,j<(l.set i v).length->0<=(l.set i v).getD j 0/\(l.set i v).getD j 0<=1000000:=by
 intro j hj
 rw [List.length_set] at hj
 by_cases hij:i=j
 ·subst hij
  rw [gD (List.getElem?_set_self hj)]
  exact hv
 ·rw [gD ((List.getElem?_set_ne hij).trans (getD_at hj))]
  exact h j hj
section
variable {x0:Int} {x1:List Int} {x2:List Ed} {x3:List (List Int)} {x4:List Int} {x14:List Sd} (i op a b:Int) (es:List Ed)
theorem relT_len (h2:x2.length<=66) (he:es.length<=66) (h1:x1.length<=12) (h14:x14.length<=80) :
  ∃(w c:_) (t1 t2 t3 t4 t5 t6 t7:Int) (t8:List Ed) (t9:Int) (s:List Sd) (m:Int),relT x0 x1 x2 x3 x4 x14 i op a b es=(x0,w,c,x3,x4,t1,t2,t3,t4,t5,t6,t7,t8,t9,s,m)/\w.length<=12/\c.length<=132/\t8.length<=132/\s.length<=81:=by
 have hCl:=relC_len x2 es
 have hIl:(relI x1 x2 es a b).length<=(relC x2 es).length:=List.length_filter_le _ _
 have hd:=foldl_del_len (relI x1 x2 es a b) (relC x2 es)
 unfold relT
 split
 ·split
  ·exact ⟨_,_,_,_,_,_,_,_,_,_,_,_,_,rfl,by rw [List.length_set];exact h1,by omega,by simp,by simp;omega⟩
  ·exact ⟨_,_,_,_,_,_,_,_,_,_,_,_,_,rfl,by rw [List.length_set];exact h1,by omega,by omega,by omega⟩
 ·exact ⟨_,_,_,_,_,_,_,_,_,_,_,_,_,rfl,h1,by omega,by simp,by simp;omega⟩
theorem heM_len (q:Int) (ok:Bool) (h2:x2.length<=66) (he:es.length<=66) (h1:x1.length<=12) (h14:x14.length<=80) :
  ∃(w c:_) (t1 t2 t3 t4 t5 t6 t7:Int) (t8:List Ed) (t9:Int) (s:List Sd) (m:Int),heM x0 x1 x2 x3 x4 x14 i op a b q ok es=(x0,w,c,x3,x4,t1,t2,t3,t4,t5,t6,t7,t8,t9,s,m)/\w.length<=12/\c.length<=132/\t8.length<=132/\s.length<=81:=by
 have say:∀v,∃(w c:_) (t1 t2 t3 t4 t5 t6 t7:Int) (t8:List Ed) (t9:Int) (s:List Sd) (m:Int),sayT x0 x1 x2 x3 x4 x14 i op a b v=(x0,w,c,x3,x4,t1,t2,t3,t4,t5,t6,t7,t8,t9,s,m)/\w.length<=12/\c.length<=132/\t8.length<=132/\s.length<=81:=fun v=>⟨_,_,_,_,_,_,_,_,_,_,_,_,_,rfl,h1,by omega,by simp,by simp;omega⟩
 unfold heM
 split
 ·split
  ·exact relT_len i op a b es h2 he h1 h14
  ·exact say _
 ·exact say _
end
section
variable (x0:Int) (x1:List Int) (x2:List Ed) (x3:List (List Int)) (x4:List Int) (x5 x6 x7 x8 x9 x10 x11:Int) (x12:List Ed) (x13:Int) (x14:List Sd) (sh:Int) (y0:Int) (y1:Bool) (y2:List Ed) (y3:List Int) (h1:x1.length<=1048576) (h2:x2.length<=1048576) (h3:x3.length<=1048576/\∀y,y∈x3->y.length<=1048576) (h4:x4.length<=1048576) (h12:x12.length<=1048576) (h14:x14.length<=1048576) (hy2:y2.length<=1048576) (hy3:y3.length<=1048576)
include h1 h2 h3 h4 h12 h14 hy2 hy3
theorem w_iHear:g_iHear ((x0,x1,x2,x3,x4,x5,x6,x7,x8,x9,x10,x11,x12,x13,x14),sh,(y0,y1,y2,y3))=some (heR x0 x1 x2 x3 x4 x5 x6 x7 x8 x9 x10 x11 x12 x13 x14 sh (y0,y1,y2,y3),()):=by
 have hm:maxLen=9223372036854775807:=by decide
 show f_iHear BIG _=_
 rw [e_iHear,w_icopyHead x0 x1 x2 x3 x4 x5 x6 x7 x8 x9 x10 x11 x12 x13 x14 h1 h2 h3 h4 h12 h14,Option.bind_some]
 dsimp only
 rw [w_iHeadOk x0 x1 x2 x3 x4 x5 x6 x7 x8 x9 x10 x11 x12 x13 x14 h1 h2 h3 h12 h14,h_iAnswerOk x0 (y0,y1,y2,y3) hy2 hy3,h_iBusy]
 have hx:(Option.bind (some (hdB x0 x1 x2 x3 x4 x14 (tkB x0 x3.length x4 x14 x5 x6 x7 x8 x9 (x10,x11,x12,x13)),())) fun r1:Bool × Unit=>
   bif !r1.1 then some true else Option.bind (some (ansB x0 (y0,y1,y2,y3),())) fun r2:Bool × Unit=>bif !r2.1 then some true else Option.bind (some (!decide (x9=0),())) fun r3:Bool × Unit=>bif !r3.1 then some true else bif !decide (sh=x9) then some true else some (!decide (y0=x10)))=some (!heOk x0 x1 x2 x3 x4 x5 x6 x7 x8 x9 x10 x11 x12 x13 x14 sh (y0,y1,y2,y3)):=by
  unfold heOk
  simp only [Option.bind_some]
  cases hdB x0 x1 x2 x3 x4 x14 (tkB x0 x3.length x4 x14 x5 x6 x7 x8 x9 (x10,x11,x12,x13))<;>cases ansB x0 (y0,y1,y2,y3)<;>cases decide (x9=0)<;>cases decide (sh=x9)<;>cases decide (y0=x10)<;>rfl
 refine (congrArg (fun o=>Option.bind o _) hx).trans ?_
 unfold heR
 cases hok:heOk x0 x1 x2 x3 x4 x5 x6 x7 x8 x9 x10 x11 x12 x13 x14 sh (y0,y1,y2,y3) with
 | false=>rfl
 | true=>
  obtain ⟨hF,hA,hs,hsr,hr⟩:=he_free hok
  obtain ⟨r1,r2,r3,r4⟩:=rt_in hr
  obtain ⟨a1,a2,a3,a4,a5,a6,a7⟩:=ansB_in hA
  have hcl:=eOk_len hF.cuts
  have hel:=eOk_len a5
  have hsd:=hF.said
  have hk:=hF.k
  have hnum:=hF.nums
  have hn4:=getD_set_le (l:=x4) (i:=(sh-1).toNat) (fun j hj=>by have:=(hF.o3 j (by omega)).2;omega) (show 0<=y0/\y0<=1000000 by simp only at a3 a4;omega)
  have e4:x4[(sh-1).toNat]?=some (x4.getD (sh-1).toNat 0):=getD_at (by omega)
  have e3:=List.getElem?_eq_getElem (l:=x3) (i:=(sh-1).toNat) (by omega)
  simp only [Bool.not_true,Option.bind_some,cond_false,if_true]
  rw [wr (n:=sh-1) (by omega) (by omega),bnd_ok (by omega) (by omega),e4,Option.bind_some,w_icopyInts y3 hy3,Option.bind_some,bnd_ok (by omega) (by omega),e3,Option.bind_some]
  unfold heM
  by_cases h6:x6=4
  ·subst h6
   simp only [decide_true,Bool.not_true,cond_false,if_true]
   by_cases h11:x11=3
   ·rw [decide_eq_true h11,cond_true,if_pos h11,w_iHead_released _ _ _ _ _ _ _ _ _ _ _ hF.n hF.own ⟨(eOk_srt hF.cuts).2.1,by omega⟩ (by rw [List.length_set];omega) (by rw [List.length_set,List.length_set];omega) (by omega) ⟨(eOk_srt a5).2.1,by omega⟩ r2 (by rw [List.length_set];exact r3 rfl) hn4]
    rfl
   ·rw [decide_eq_false h11,cond_false,if_neg h11,w_iHead_say _ _ _ _ _ _ _ _ _ _ _ _ _ _ (by omega)]
    rfl
  ·simp only [decide_eq_false h6,Bool.not_false,cond_true,if_neg h6]
   rw [h_iyesNo,Option.bind_some,w_iHead_say _ _ _ _ _ _ _ _ _ _ _ _ _ _ (by omega)]
   rfl
theorem w_sHear:g_sHear ((x0,x1,x2,x3,x4,x5,x6,x7,x8,x9,x10,x11,x12,x13,x14),sh,(y0,y1,y2,y3))=some (heR x0 x1 x2 x3 x4 x5 x6 x7 x8 x9 x10 x11 x12 x13 x14 sh (y0,y1,y2,y3),()):=by
 have hm:maxLen=9223372036854775807:=by decide
 show f_sHear BIG _=_
 rw [e_sHear,w_sl12Copy x0 x1 x2 x3 x4 x5 x6 x7 x8 x9 x10 x11 x12 x13 x14 h1 h2 h3 h4 h12 h14,Option.bind_some]
 dsimp only
 rw [w_sHeadOk x0 x1 x2 x3 x4 x5 x6 x7 x8 x9 x10 x11 x12 x13 x14 h1 h2 h3 h12 h14,h_sAnswerOk x0 (y0,y1,y2,y3) hy2 hy3,h_sBusy]
 have hx:(Option.bind (some (hdB x0 x1 x2 x3 x4 x14 (tkB x0 x3.length x4 x14 x5 x6 x7 x8 x9 (x10,x11,x12,x13)),())) fun r1:Bool × Unit=>
   bif !r1.1 then some true else Option.bind (some (ansB x0 (y0,y1,y2,y3),())) fun r2:Bool × Unit=>bif !r2.1 then some true else Option.bind (some (!decide (x9=0),())) fun r3:Bool × Unit=>bif !r3.1 then some true else bif !decide (sh=x9) then some true else some (!decide (y0=x10)))=some (!heOk x0 x1 x2 x3 x4 x5 x6 x7 x8 x9 x10 x11 x12 x13 x14 sh (y0,y1,y2,y3)):=by
  unfold heOk
  simp only [Option.bind_some]
  cases hdB x0 x1 x2 x3 x4 x14 (tkB x0 x3.length x4 x14 x5 x6 x7 x8 x9 (x10,x11,x12,x13))<;>cases ansB x0 (y0,y1,y2,y3)<;>cases decide (x9=0)<;>cases decide (sh=x9)<;>cases decide (y0=x10)<;>rfl
 refine (congrArg (fun o=>Option.bind o _) hx).trans ?_
 unfold heR
 cases hok:heOk x0 x1 x2 x3 x4 x5 x6 x7 x8 x9 x10 x11 x12 x13 x14 sh (y0,y1,y2,y3) with
 | false=>rfl
 | true=>
  obtain ⟨hF,hA,hs,hsr,hr⟩:=he_free hok
  obtain ⟨r1,r2,r3,r4⟩:=rt_in hr
  obtain ⟨a1,a2,a3,a4,a5,a6,a7⟩:=ansB_in hA
  have hcl:=eOk_len hF.cuts
  have hel:=eOk_len a5
  have hsd:=hF.said
  have hk:=hF.k
  have hnum:=hF.nums
  have hnn:=hF.n
  have hown:=hF.own
  have hn4:=getD_set_le (l:=x4) (i:=(sh-1).toNat) (fun j hj=>by have:=(hF.o3 j (by omega)).2;omega) (show 0<=y0/\y0<=1000000 by simp only at a3 a4;omega)
  have e4:x4[(sh-1).toNat]?=some (x4.getD (sh-1).toNat 0):=getD_at (by omega)
  have e3:=List.getElem?_eq_getElem (l:=x3) (i:=(sh-1).toNat) (by omega)
  have h3':(x3.set (sh-1).toNat y3).length<=1048576/\∀y,y∈x3.set (sh-1).toNat y3->y.length<=1048576:=⟨by rw [List.length_set];omega,fun y hy=>by
   rcases List.mem_or_eq_of_mem_set hy with hy|rfl
   ·exact h3.2 y hy
   ·exact hy3⟩
  simp only [Bool.not_true,Option.bind_some,cond_false,if_true]
  rw [wr (n:=sh-1) (by omega) (by omega),bnd_ok (by omega) (by omega),e4,Option.bind_some,decide_eq_true (by simp;omega),cond_true,bnd_ok (by omega) (by omega),e3,Option.bind_some]
  simp only [List.nil_append]
  unfold heM
  by_cases h6:x6=4
  ·subst h6
   simp only [decide_true,Bool.not_true,cond_true,cond_false,if_true,Option.bind_some]
   by_cases h11:x11=3
   ·simp only [decide_eq_true h11,cond_true,if_pos h11]
    rw [w_sl12Moved _ _ _ _ _ _ _ _ _ _ _ _ _ _ _ _ _ _ _ _ hF.n hF.own ⟨(eOk_srt hF.cuts).2.1,by omega⟩ (by rw [List.length_set];omega) (by rw [List.length_set,List.length_set];omega) (by omega) ⟨(eOk_srt a5).2.1,by omega⟩ r2 (by rw [List.length_set];exact r3 rfl) hn4,Option.bind_some]
    obtain ⟨w,c,t1,t2,t3,t4,t5,t6,t7,t8,t9,s,m,e,l1,l2,l3,l4⟩:=relT_len (x0:=x0) (x1:=x1) (x2:=x2) (x3:=x3.set (sh-1).toNat y3) (x4:=x4.set (sh-1).toNat y0) (x14:=x14) x5 4 x7 x8 y2 (by omega) (by show y2.length<=66;exact hel) (by omega) (by omega)
    rw [e]
    simp only [frt]
    rw [w_sl12Copy _ _ _ _ _ _ _ _ _ _ _ _ _ _ _ (by omega) (by omega) h3' (by rw [List.length_set];omega) (by omega) (by omega),Option.bind_some]
   ·simp only [decide_eq_false h11,cond_false,if_neg h11]
    rw [w_sl12Say _ _ _ _ _ _ _ _ _ _ _ _ _ _ (by omega)]
    rfl
  ·simp only [decide_eq_false h6,Bool.not_false,cond_true,cond_false,if_neg h6,Option.bind_some]
   cases y1 with
   | true=>
    simp only [Bool.not_true,cond_false,Option.bind_some,if_true]
    rw [w_sl12Say _ _ _ _ _ _ _ _ _ _ _ _ _ _ (by omega)]
    rfl
   | false=>
    simp only [Bool.not_false,cond_true,Option.bind_some,Bool.false_eq_true,if_false]
    rw [w_sl12Say _ _ _ _ _ _ _ _ _ _ _ _ _ _ (by omega)]
    rfl
end
structure HdS (h:Hd):Prop where
 a:h.2.1.length<=12
 b:h.2.2.1.length<=132
 c:h.2.2.2.1.length<=3/\∀y,y∈h.2.2.2.1->y.length<=12
 d:h.2.2.2.2.1.length<=3
 e:h.2.2.2.2.2.2.2.2.2.2.2.2.1.length<=132
 f:h.2.2.2.2.2.2.2.2.2.2.2.2.2.2.length<=81
def zH:Hd:=(0,[],[],[],[],0,0,0,0,0,0,0,[],0,[])
noncomputable def tkU (h:Hd) (i op a b:Int):HdI:=tkR h.1 h.2.1 h.2.2.1 h.2.2.2.1 h.2.2.2.2.1 h.2.2.2.2.2.1 h.2.2.2.2.2.2.1 h.2.2.2.2.2.2.2.1 h.2.2.2.2.2.2.2.2.1 h.2.2.2.2.2.2.2.2.2.1 h.2.2.2.2.2.2.2.2.2.2.1 h.2.2.2.2.2.2.2.2.2.2.2.1 h.2.2.2.2.2.2.2.2.2.2.2.2.1 h.2.2.2.2.2.2.2.2.2.2.2.2.2.1 h.2.2.2.2.2.2.2.2.2.2.2.2.2.2 i op a b
noncomputable def heU (h:Hd) (sh:Int) (y:An):HdI:=heR h.1 h.2.1 h.2.2.1 h.2.2.2.1 h.2.2.2.2.1 h.2.2.2.2.2.1 h.2.2.2.2.2.2.1 h.2.2.2.2.2.2.2.1 h.2.2.2.2.2.2.2.2.1 h.2.2.2.2.2.2.2.2.2.1 h.2.2.2.2.2.2.2.2.2.2.1 h.2.2.2.2.2.2.2.2.2.2.2.1 h.2.2.2.2.2.2.2.2.2.2.2.2.1 h.2.2.2.2.2.2.2.2.2.2.2.2.2.1 h.2.2.2.2.2.2.2.2.2.2.2.2.2.2 sh y
noncomputable def hfR (h:Hd) (y:Rc):Int × Hd:=
 if y.1=1 then frt (tkU h y.2.1 y.2.2.1 y.2.2.2.1 y.2.2.2.2.1)
 else if y.1=2 then frt (heU h y.2.2.2.2.2.1 (y.2.2.2.2.2.2.1,y.2.2.2.2.2.2.2.1,y.2.2.2.2.2.2.2.2.1,y.2.2.2.2.2.2.2.2.2.1)) else (0,h)
noncomputable def hfS (h:Hd) (y:Rc):Option Hd:=if (hfR h y).1=0 then none else some (hfR h y).2
def fl (h:Hd) (b:Bool):Int × List Int × List (Int × Int) × List (List Int) × List Int × Int × Int × Int × Int × Int × Int × Int × List (Int × Int) × Int × List (Int × Int × Int × Int × Int × Int) × Bool:=(h.1,h.2.1,h.2.2.1,h.2.2.2.1,h.2.2.2.2.1,h.2.2.2.2.2.1,h.2.2.2.2.2.2.1,h.2.2.2.2.2.2.2.1,h.2.2.2.2.2.2.2.2.1,h.2.2.2.2.2.2.2.2.2.1,h.2.2.2.2.2.2.2.2.2.2.1,h.2.2.2.2.2.2.2.2.2.2.2.1,h.2.2.2.2.2.2.2.2.2.2.2.2.1,h.2.2.2.2.2.2.2.2.2.2.2.2.2.1,h.2.2.2.2.2.2.2.2.2.2.2.2.2.2,b)
noncomputable def hfO (n k:Int) (rs:List Rc):Option Hd:=if (inB n 1 12&&inB k 1 3)=true then fM hfS (hdN n.toNat k.toNat) rs else none
noncomputable def hfF (n k:Int) (rs:List Rc):Int × List Int × List (Int × Int) × List (List Int) × List Int × Int × Int × Int × Int × Int × Int × Int × List (Int × Int) × Int × List (Int × Int × Int × Int × Int × Int) × Bool:=match hfO n k rs with
 | some h=>fl h true
 | none=>fl zH false
theorem lb_len {n:Int} {l:List Int} (h:lbOk n l=true):(l.length:Int)=n:=by
 unfold lbOk at h
 split at h
 ·assumption
 ·cases h
theorem HdF.rows {x0:Int} {x1:List Int} {x2:List Ed} {x3:List (List Int)} {x4:List Int} {x14:List Sd} (h:HdF x0 x1 x2 x3 x4 x14):∀y,y∈x3->y.length<=12:=by
 intro y hy
 obtain ⟨i,hi,rfl⟩:=List.getElem_of_mem hy
 have h1:=(h.o3 i hi).1
 rw [gD (List.getElem?_eq_getElem hi)] at h1
 have:=lb_len h1
 have:=h.n
 omega
theorem hdN_sz (n k:Int) (h:(inB n 1 12&&inB k 1 3)=true):HdS (hdN n.toNat k.toNat):=by
 rw [Bool.and_eq_true,inB_t,inB_t] at h
 refine ⟨by show (ownL _ _).length<=12;rw [ownL_len];omega,by show ([]:List Ed).length<=132;simp,⟨by show (List.replicate _ _).length<=3;rw [List.length_replicate];omega,fun y hy => ?_⟩,by show (List.replicate _ _).length<=3;rw [List.length_replicate];omega,by show ([]:List Ed).length<=132;simp,by show ([]:List Sd).length<=81;simp⟩
 have hy':y∈List.replicate k.toNat (lab0 n.toNat):=hy
 rw [List.mem_replicate] at hy'
 rw [hy'.2]
 simp only [lab0,List.length_map,List.length_range]
 omega
theorem hfS_sz {h h':Hd} {y:Rc} (hs:HdS h) (e:hfS h y=some h'):HdS h':=by
 obtain ⟨x0,x1,x2,x3,x4,x5,x6,x7,x8,x9,x10,x11,x12,x13,x14⟩:=h
 unfold hfS at e
 split at e
 case isTrue=>cases e
 case isFalse hne=>
 cases e
 unfold hfR at hne ⊢
 split
 case isTrue h1=>
  rw [if_pos h1] at hne
  unfold tkU tkR at hne ⊢
  split
  case isFalse hno=>rw [if_neg hno] at hne;exact absurd rfl hne
  case isTrue hok=>
  obtain ⟨hF,_⟩:=tk_free hok
  have hcl:=eOk_len hF.cuts
  have hsd:=hF.said
  have hn:=hF.n
  have ho:=hF.own
  have hk:=hF.k
  have hnu:=hF.nums
  obtain ⟨c,t1,t2,t3,t4,t5,t6,t7,t8,t9,s,m,er,l1,l2,l3⟩:=tkM_len x0 x1 x2 x3 x4 x14 y.2.1 y.2.2.1 y.2.2.2.1 y.2.2.2.2.1
  rw [er]
  exact ⟨by show x1.length<=12;simp only at ho hn;omega,by show c.length<=132;simp only at hcl;omega,⟨by show x3.length<=3;exact hk.2,hF.rows⟩,by show x4.length<=3;simp only at hnu hk;omega,by show t8.length<=132;omega,by show s.length<=81;simp only at hsd;omega⟩
 case isFalse h1=>
 rw [if_neg h1] at hne
 split
 case isFalse h2=>rw [if_neg h2] at hne;exact absurd rfl hne
 case isTrue h2=>
 rw [if_pos h2] at hne
 unfold heU heR at hne ⊢
 split
 case isFalse hno=>rw [if_neg hno] at hne;exact absurd rfl hne
 case isTrue hok=>
 obtain ⟨hF,hA,hsh,hsr,hr⟩:=he_free hok
 obtain ⟨a1,a2,a3,a4,a5,a6,a7⟩:=ansB_in hA
 have hcl:=eOk_len hF.cuts
 have hel:=eOk_len a5
 have hsd:=hF.said
 have hn:=hF.n
 have ho:=hF.own
 have hk:=hF.k
 have hnu:=hF.nums
 simp only at hcl hel hsd hn ho hk hnu a6
 obtain ⟨w,c,t1,t2,t3,t4,t5,t6,t7,t8,t9,s,m,er,l1,l2,l3,l4⟩:=heM_len (x0:=x0) (x1:=x1) (x2:=x2) (x3:=x3.set (y.2.2.2.2.2.1-1).toNat y.2.2.2.2.2.2.2.2.2.1) (x4:=x4.set (y.2.2.2.2.2.1-1).toNat y.2.2.2.2.2.2.1) (x14:=x14) x5 x6 x7 x8 y.2.2.2.2.2.2.2.2.1 x11 y.2.2.2.2.2.2.2.1 (by omega) (by omega) (by omega) (by omega)
 simp only
 rw [er]
 refine ⟨l1,l2,⟨by show (x3.set _ _).length<=3;rw [List.length_set];exact hk.2,fun z hz => ?_⟩,by show (x4.set _ _).length<=3;rw [List.length_set];omega,l3,l4⟩
 rcases List.mem_or_eq_of_mem_set hz with hz|rfl
 ·exact hF.rows z hz
 ·omega
theorem HdS.bd {h:Hd} (hs:HdS h):h.2.1.length<=1048576/\h.2.2.1.length<=1048576/\(h.2.2.2.1.length<=1048576/\∀y,y∈h.2.2.2.1->y.length<=1048576)/\h.2.2.2.2.1.length<=1048576/\h.2.2.2.2.2.2.2.2.2.2.2.2.1.length<=1048576/\h.2.2.2.2.2.2.2.2.2.2.2.2.2.2.length<=1048576:=by
 obtain ⟨a,b,c,d,e,f⟩:=hs
 exact ⟨by omega,by omega,⟨by omega,fun y hy=>by have:=c.2 y hy;omega⟩,by omega,by omega,by omega⟩
theorem u_iTake {h:Hd} (hs:HdS h) (i op a b:Int):g_iTake (h,(i,op,a,b))=some (tkU h i op a b,()):=by
 obtain ⟨b1,b2,b3,b4,b5,b6⟩:=hs.bd
 exact w_iTake _ _ _ _ _ _ _ _ _ _ _ _ _ _ _ i op a b b1 b2 b3 b4 b5 b6
theorem u_sTake {h:Hd} (hs:HdS h) (i op a b:Int):g_sTake (h,(i,op,a,b))=some (tkU h i op a b,()):=by
 obtain ⟨b1,b2,b3,b4,b5,b6⟩:=hs.bd
 exact w_sTake _ _ _ _ _ _ _ _ _ _ _ _ _ _ _ i op a b b1 b2 b3 b4 b5 b6
theorem u_iHear {h:Hd} (hs:HdS h) (sh:Int) (y:An) (h2:y.2.2.1.length<=1048576) (h3:y.2.2.2.length<=1048576):g_iHear (h,sh,y)=some (heU h sh y,()):=by
 obtain ⟨b1,b2,b3,b4,b5,b6⟩:=hs.bd
 exact w_iHear _ _ _ _ _ _ _ _ _ _ _ _ _ _ _ sh _ _ _ _ b1 b2 b3 b4 b5 b6 h2 h3
theorem u_sHear {h:Hd} (hs:HdS h) (sh:Int) (y:An) (h2:y.2.2.1.length<=1048576) (h3:y.2.2.2.length<=1048576):g_sHear (h,sh,y)=some (heU h sh y,()):=by
 obtain ⟨b1,b2,b3,b4,b5,b6⟩:=hs.bd
 exact w_sHear _ _ _ _ _ _ _ _ _ _ _ _ _ _ _ sh _ _ _ _ b1 b2 b3 b4 b5 b6 h2 h3
def RcS (rs:List Rc):Prop:=rs.length<=1048576/\∀y,y∈rs->y.2.2.2.2.2.2.2.2.1.length<=1048576/\y.2.2.2.2.2.2.2.2.2.1.length<=1048576
theorem w_iHeadFrom (n k : Int) (rs : List Rc) (hz : RcS rs) : g_iHeadFrom (n, k, rs) = some (hfF n k rs, ()) := by
  have hm : maxLen = 9223372036854775807 := by decide
  show f_iHeadFrom BIG _ = _
  rw [e_iHeadFrom]
  obtain ⟨r, hr, h1, _⟩ := h_iHeadNew n k
  rw [h1, Option.bind_some]
  unfold hfF hfO
  cases hc : (inB n 1 12 && inB k 1 3) with
  | false =>
    rw [hc] at hr
    simp only [Bool.false_eq_true, if_false] at hr ⊢
    subst hr
    rfl
  | true =>
    rw [hc] at hr
    simp only [if_true] at hr ⊢
    subst hr
    have hL := exitG (B := Hd × Bool) (F := fun self2 (x1 : Hd × Hd × Int) =>
      bif decide (x1.2.2 < (rs.length : Int)) then
       Option.bind (bnd rs.length x1.2.2 fun n3 =>
        Option.bind rs[n3]? fun y =>
        Option.bind (bif decide (y.1 = (1 : Int)) then
        Option.bind (g_iTake (x1.1, (y.2.1, y.2.2.1, y.2.2.2.1, y.2.2.2.2.1))) fun r5 =>
        some ((r5.1.1, r5.1.2.1, r5.1.2.2.1, r5.1.2.2.2.1, r5.1.2.2.2.2.1, r5.1.2.2.2.2.2.1, r5.1.2.2.2.2.2.2.1, r5.1.2.2.2.2.2.2.2.1, r5.1.2.2.2.2.2.2.2.2.1, r5.1.2.2.2.2.2.2.2.2.2.1, r5.1.2.2.2.2.2.2.2.2.2.2.1, r5.1.2.2.2.2.2.2.2.2.2.2.2.1, r5.1.2.2.2.2.2.2.2.2.2.2.2.2.1, r5.1.2.2.2.2.2.2.2.2.2.2.2.2.2.1, r5.1.2.2.2.2.2.2.2.2.2.2.2.2.2.2.1), r5.1.2.2.2.2.2.2.2.2.2.2.2.2.2.2.2)
       else bif decide (y.1 = (2 : Int)) then
        Option.bind (g_iHear (x1.1, y.2.2.2.2.2.1, (y.2.2.2.2.2.2.1, y.2.2.2.2.2.2.2.1, y.2.2.2.2.2.2.2.2.1, y.2.2.2.2.2.2.2.2.2.1))) fun r6 =>
        some ((r6.1.1, r6.1.2.1, r6.1.2.2.1, r6.1.2.2.2.1, r6.1.2.2.2.2.1, r6.1.2.2.2.2.2.1, r6.1.2.2.2.2.2.2.1, r6.1.2.2.2.2.2.2.2.1, r6.1.2.2.2.2.2.2.2.2.1, r6.1.2.2.2.2.2.2.2.2.2.1, r6.1.2.2.2.2.2.2.2.2.2.2.1, r6.1.2.2.2.2.2.2.2.2.2.2.2.1, r6.1.2.2.2.2.2.2.2.2.2.2.2.2.1, r6.1.2.2.2.2.2.2.2.2.2.2.2.2.2.1, r6.1.2.2.2.2.2.2.2.2.2.2.2.2.2.2.1), r6.1.2.2.2.2.2.2.2.2.2.2.2.2.2.2.2)
       else some (x1.1, (0 : Int)) : Option (Hd × Int)) fun x7 =>
        bif decide (x7.2 = (0 : Int)) then
         some (Sum.inr (zH, false))
        else some (Sum.inl (x7.1, x1.2.1)) : Option ((Hd × Hd) ⊕ (Hd × Bool))) fun y => match y with
       | .inl x8 =>
        self2 (x8.1, x8.2, IntKind.wrap .i64 (x1.2.2 + (1 : Int)))
       | .inr x8 =>
        some (Sum.inr (x8.1, x8.2))
      else some (Sum.inl (x1.1, x1.2.1))) rs (by have := hz.1; omega) (mk := fun (s : Hd) (j : Int) => ((s, zH, j) : Hd × Hd × Int)) (I := fun _ s => HdS s) (st := hfS) (R := fun s => ((s, zH) : Hd × Hd)) (b := ((zH, false) : Hd × Bool)) (s0 := hdN n.toNat k.toNat) (hdN_sz n k hc) (fun i s s' y hy hs hst => hfS_sz hs hst) (fun self s i y hy hs => ?_) (fun self s hs => by simp)
    · refine (congrArg (fun o => Option.bind o _) hL).trans ?_
      cases fM hfS (hdN n.toNat k.toNat) rs with
      | none => rfl
      | some h => rfl
    · have hi := (List.getElem?_eq_some_iff.1 hy).1
      have hyb := hz.2 y (List.mem_of_getElem? hy)
      have hlen := hz.1
      simp only [show ((i : Int) < (rs.length : Int)) from by omega, decide_true, cond_true]
      rw [bnd_nat hi, hy, Option.bind_some]
      have key : (bif decide (y.1 = (1 : Int)) then
        Option.bind (g_iTake (s, (y.2.1, y.2.2.1, y.2.2.2.1, y.2.2.2.2.1))) fun r5 =>
        some ((r5.1.1, r5.1.2.1, r5.1.2.2.1, r5.1.2.2.2.1, r5.1.2.2.2.2.1, r5.1.2.2.2.2.2.1, r5.1.2.2.2.2.2.2.1, r5.1.2.2.2.2.2.2.2.1, r5.1.2.2.2.2.2.2.2.2.1, r5.1.2.2.2.2.2.2.2.2.2.1, r5.1.2.2.2.2.2.2.2.2.2.2.1, r5.1.2.2.2.2.2.2.2.2.2.2.2.1, r5.1.2.2.2.2.2.2.2.2.2.2.2.2.1, r5.1.2.2.2.2.2.2.2.2.2.2.2.2.2.1, r5.1.2.2.2.2.2.2.2.2.2.2.2.2.2.2.1), r5.1.2.2.2.2.2.2.2.2.2.2.2.2.2.2.2)
       else bif decide (y.1 = (2 : Int)) then
        Option.bind (g_iHear (s, y.2.2.2.2.2.1, (y.2.2.2.2.2.2.1, y.2.2.2.2.2.2.2.1, y.2.2.2.2.2.2.2.2.1, y.2.2.2.2.2.2.2.2.2.1))) fun r6 =>
        some ((r6.1.1, r6.1.2.1, r6.1.2.2.1, r6.1.2.2.2.1, r6.1.2.2.2.2.1, r6.1.2.2.2.2.2.1, r6.1.2.2.2.2.2.2.1, r6.1.2.2.2.2.2.2.2.1, r6.1.2.2.2.2.2.2.2.2.1, r6.1.2.2.2.2.2.2.2.2.2.1, r6.1.2.2.2.2.2.2.2.2.2.2.1, r6.1.2.2.2.2.2.2.2.2.2.2.2.1, r6.1.2.2.2.2.2.2.2.2.2.2.2.2.1, r6.1.2.2.2.2.2.2.2.2.2.2.2.2.2.1, r6.1.2.2.2.2.2.2.2.2.2.2.2.2.2.2.1), r6.1.2.2.2.2.2.2.2.2.2.2.2.2.2.2.2)
       else some (s, (0 : Int)) : Option (Hd × Int)) = some ((hfR s y).2, (hfR s y).1) := by
        unfold hfR
        by_cases c1 : y.1 = 1
        · rw [decide_eq_true c1, cond_true, if_pos c1, u_iTake hs, Option.bind_some]
          rfl
        · rw [decide_eq_false c1, cond_false, if_neg c1]
          by_cases c2 : y.1 = 2
          · rw [decide_eq_true c2, cond_true, if_pos c2, u_iHear hs _ _ hyb.1 hyb.2, Option.bind_some]
            rfl
          · rw [decide_eq_false c2, cond_false, if_neg c2]
      rw [key, Option.bind_some]
      unfold hfS
      by_cases c0 : (hfR s y).1 = 0
      · simp only [decide_eq_true c0, cond_true, if_pos c0, Option.bind_some]
      · simp only [decide_eq_false c0, cond_false, if_neg c0, Option.bind_some]
        rw [wr1 (by omega)]
theorem fM_appS {S α:Type} (st:S->α->Option S):∀(a b:List α) (s:S),fM st s (a++b)=(fM st s a).bind fun s'=>fM st s' b
 | [],b,s=>rfl
 | x::a,b,s=>by
  rw [List.cons_append,fM,fM]
  cases st s x with
  | none=>rfl
  | some s'=>simp only [Option.bind_some,fM_appS st a b]
theorem w_sHeadFrom (n k : Int) (rs : List Rc) (hz : RcS rs) : g_sHeadFrom (n, k, rs) = some (hfF n k rs, ()) := by
  have hm : maxLen = 9223372036854775807 := by decide
  show f_sHeadFrom BIG _ = _
  rw [e_sHeadFrom]
  obtain ⟨r, hr, _, h1⟩ := h_iHeadNew n k
  rw [h1, Option.bind_some]
  have hfin : ∀ b : Hd × Bool, (b.2 = true → hfO n k rs = some b.1 ∧ HdS b.1) ∧ (b.2 = false → hfO n k rs = none) → (bif !b.2 then
   some (((0 : Int), [], [], [], [], (0 : Int), (0 : Int), (0 : Int), (0 : Int), (0 : Int), (0 : Int), (0 : Int), [], (0 : Int), [], false), ())
  else Option.bind (g_sl12Copy b.1) fun r17 => some (fl r17.1 true, ())) = some (hfF n k rs, ()) := by
    intro b ⟨hb1, hb2⟩
    obtain ⟨h, ok⟩ := b
    unfold hfF
    cases ok with
    | false => rw [hb2 rfl]; rfl
    | true =>
      obtain ⟨e1, e2⟩ := hb1 rfl
      obtain ⟨b1, b2, b3, b4, b5, b6⟩ := e2.bd
      rw [e1]
      have hcp : g_sl12Copy h = some (h, ()) := w_sl12Copy _ _ _ _ _ _ _ _ _ _ _ _ _ _ _ b1 b2 b3 b4 b5 b6
      simp only [Bool.not_true, cond_false]
      rw [hcp]
      rfl
  refine loop_bind (P := fun o => o = some (hfF n k rs, ())) (fun (x : Hd × Bool × Int) => ∃ i : Nat, x.2.2 = (i : Int) ∧ i ≤ rs.length ∧ ((x.2.1 = true ∧ HdS x.1 ∧ (inB n 1 12 && inB k 1 3) = true ∧ fM hfS (hdN n.toNat k.toNat) (rs.take i) = some x.1) ∨ (x.2.1 = false ∧ hfO n k rs = none))) (fun x => rs.length - x.2.2.toNat) (fun _ (b : Hd × Bool) => (b.2 = true → hfO n k rs = some b.1 ∧ HdS b.1) ∧ (b.2 = false → hfO n k rs = none)) (by have := hz.1; simp [BIG]; omega) ⟨0, rfl, by omega, ?_⟩ (fun self x hx hself => ?_) (fun b hb => hfin b hb)
  · subst hr
    cases hc : (inB n 1 12 && inB k 1 3) with
    | true => exact .inl ⟨rfl, hdN_sz n k hc, rfl, rfl⟩
    | false =>
      refine .inr ⟨rfl, ?_⟩
      unfold hfO
      rw [hc]; rfl
  · obtain ⟨s, ok, j⟩ := x
    obtain ⟨i, g1, g2, g3⟩ := hx
    simp only at g1 g2 g3 hself ⊢
    subst g1
    have hlen := hz.1
    by_cases hi : i < rs.length
    · simp only [show ((i : Int) < (rs.length : Int)) from by omega, decide_true, cond_true, Option.bind_some]
      rcases g3 with ⟨rfl, hs, hc, hf⟩ | ⟨rfl, hno⟩
      · have hyb := hz.2 rs[i] (List.getElem_mem hi)
        have hy := List.getElem?_eq_getElem hi
        have key : (bnd rs.length (i : Int) fun n4 =>
       Option.bind rs[n4]? fun y5 =>
       bif decide (y5.1 = (1 : Int)) then
        bnd rs.length (i : Int) fun n6 =>
        Option.bind rs[n6]? fun y7 =>
        Option.bind (g_sTake (s, (y7.2.1, y7.2.2.1, y7.2.2.2.1, y7.2.2.2.2.1))) fun r8 =>
        some ((r8.1.1, r8.1.2.1, r8.1.2.2.1, r8.1.2.2.2.1, r8.1.2.2.2.2.1, r8.1.2.2.2.2.2.1, r8.1.2.2.2.2.2.2.1, r8.1.2.2.2.2.2.2.2.1, r8.1.2.2.2.2.2.2.2.2.1, r8.1.2.2.2.2.2.2.2.2.2.1, r8.1.2.2.2.2.2.2.2.2.2.2.1, r8.1.2.2.2.2.2.2.2.2.2.2.2.1, r8.1.2.2.2.2.2.2.2.2.2.2.2.2.1, r8.1.2.2.2.2.2.2.2.2.2.2.2.2.2.1, r8.1.2.2.2.2.2.2.2.2.2.2.2.2.2.2.1), r8.1.2.2.2.2.2.2.2.2.2.2.2.2.2.2.2)
       else bif decide (y5.1 = (2 : Int)) then
        bnd rs.length (i : Int) fun n9 =>
        Option.bind rs[n9]? fun y10 =>
        bnd rs.length (i : Int) fun n11 =>
        Option.bind rs[n11]? fun y12 =>
        Option.bind (g_sHear (s, y10.2.2.2.2.2.1, (y12.2.2.2.2.2.2.1, y12.2.2.2.2.2.2.2.1, y12.2.2.2.2.2.2.2.2.1, y12.2.2.2.2.2.2.2.2.2.1))) fun r13 =>
        some ((r13.1.1, r13.1.2.1, r13.1.2.2.1, r13.1.2.2.2.1, r13.1.2.2.2.2.1, r13.1.2.2.2.2.2.1, r13.1.2.2.2.2.2.2.1, r13.1.2.2.2.2.2.2.2.1, r13.1.2.2.2.2.2.2.2.2.1, r13.1.2.2.2.2.2.2.2.2.2.1, r13.1.2.2.2.2.2.2.2.2.2.2.1, r13.1.2.2.2.2.2.2.2.2.2.2.2.1, r13.1.2.2.2.2.2.2.2.2.2.2.2.2.1, r13.1.2.2.2.2.2.2.2.2.2.2.2.2.2.1, r13.1.2.2.2.2.2.2.2.2.2.2.2.2.2.2.1), r13.1.2.2.2.2.2.2.2.2.2.2.2.2.2.2.2)
       else some (s, (0 : Int)) : Option (Hd × Int)) = some ((hfR s rs[i]).2, (hfR s rs[i]).1) := by
          have bi : ∀ {B : Type} {k : Nat → Option B}, bnd rs.length (i : Int) k = k i := fun {B k} => bnd_nat hi
          simp only [bi, hy, Option.bind_some]
          generalize rs[i] = y at hyb
          unfold hfR
          by_cases c1 : y.1 = 1
          · rw [decide_eq_true c1, cond_true, if_pos c1, u_sTake hs, Option.bind_some]
            rfl
          · rw [decide_eq_false c1, cond_false, if_neg c1]
            by_cases c2 : y.1 = 2
            · rw [decide_eq_true c2, cond_true, if_pos c2, u_sHear hs _ _ hyb.1 hyb.2, Option.bind_some]
              rfl
            · rw [decide_eq_false c2, cond_false, if_neg c2]
        have htk : rs.take (i + 1) = rs.take i ++ [rs[i]] := List.take_succ_eq_append_getElem hi
        simp only [cond_true]
        rw [key]
        simp only [Option.bind_some]
        rw [wr1 (by omega)]
        by_cases c0 : (hfR s rs[i]).1 = 0
        · rw [decide_eq_true c0]
          refine hself _ ⟨i + 1, rfl, hi, .inr ⟨rfl, ?_⟩⟩ (by simp; omega)
          unfold hfO
          rw [hc, if_pos rfl]
          have : rs = rs.take i ++ (rs[i] :: rs.drop (i + 1)) := by
            rw [← List.drop_eq_getElem_cons hi, List.take_append_drop]
          rw [this, fM_appS, hf, Option.bind_some, fM]
          unfold hfS
          rw [if_pos c0]; rfl
        · rw [decide_eq_false c0]
          have hst : hfS s rs[i] = some (hfR s rs[i]).2 := by unfold hfS; rw [if_neg c0]
          refine hself _ ⟨i + 1, rfl, hi, .inl ⟨rfl, hfS_sz hs hst, hc, ?_⟩⟩ (by simp; omega)
          rw [htk, fM_appS, hf, Option.bind_some, fM, hst]
          rfl
      · simp only [cond_false]
        exact ⟨_, rfl, (fun h => by cases h), fun _ => hno⟩
    · have hil : i = rs.length := by omega
      subst hil
      simp only [show ¬ ((rs.length : Int) < (rs.length : Int)) from by omega, decide_false, cond_false, Option.bind_some]
      refine ⟨_, rfl, ?_⟩
      rcases g3 with ⟨rfl, hs, hc, hf⟩ | ⟨rfl, hno⟩
      · rw [List.take_length] at hf
        refine ⟨fun _ => ⟨?_, hs⟩, (fun h => by cases h)⟩
        unfold hfO
        rw [hc, if_pos rfl, hf]
      · exact ⟨(fun h => by cases h), fun _ => hno⟩
theorem fM_hfS:∀(l:List Rc) (h h':Hd),HdS h->fM hfS h l=some h'->HdS h'
 | [],h,h',hs,e=>by
  simp only [fM,Option.some.injEq] at e
  rw [<-e];exact hs
 | y::l,h,h',hs,e=>by
  rw [fM] at e
  cases hy:hfS h y with
  | none=>rw [hy] at e;cases e
  | some h1=>
   rw [hy] at e
   exact fM_hfS l h1 h' (hfS_sz hs hy) e
theorem hfF_sz (n k:Int) (rs:List Rc):∃h b,hfF n k rs=fl h b/\HdS h:=by
 unfold hfF
 cases hO:hfO n k rs with
 | none=>exact ⟨zH,false,rfl,⟨by show ([]:List Int).length<=12;simp,by show ([]:List Ed).length<=132;simp,⟨by show ([]:List (List Int)).length<=3;simp,fun y hy=>by cases hy⟩,by show ([]:List Int).length<=3;simp,by show ([]:List Ed).length<=132;simp,by show ([]:List Sd).length<=81;simp⟩⟩
 | some h=>
  unfold hfO at hO
  split at hO
  ·rename_i hc
   exact ⟨h,true,rfl,fM_hfS rs _ _ (hdN_sz n k hc) hO⟩
  ·cases hO
theorem rcs_of {rs:List Rc} (hz:z_RecS rs<=1048576):RcS rs:=by
 refine ⟨?_,fun y hy => ?_⟩
 ·unfold z_RecS at hz;omega
 ·have:=z_RecS_mem hy;omega
theorem mk_RecS (a:List (Int × Int × Int × Int × Int × Int × Int × Bool × List (Int × Int) × List (Int) × Int × Int × List (Int × Int) × Int)) (k:Int) (h0:0<=k) (hk:k+1407375068102656<=4611686018427380000) (hz:z_RecS a<=16777216):∃t c,g_lmarkRecS (a,k)=some (c,t)/\k<=c/\c<=k+1407375068102656:=by
 have hm:maxLen=9223372036854775807:=by decide
 have hl0:a.length<=16777216:=by unfold z_RecS at hz;omega
 have L:=mkLoop hd_RecS 83886091 (by omega) a k (by omega) (F:=fun self1 x0=>
  bif decide (x0.2.2<(x0.1.length:Int)) then
   bnd x0.1.length x0.2.2 fun n2=>
   Option.bind x0.1[n2]? fun y3=>
   bnd (x0.1.set n2 (x0.2.1,y3.2)).length x0.2.2 fun n4=>
   Option.bind (x0.1.set n2 (x0.2.1,y3.2))[n4]? fun y5=>
   bnd ((x0.1.set n2 (x0.2.1,y3.2)).set n4 (y5.1,IntKind.wrap .i64 (x0.2.1+(1:Int)),y5.2.2)).length x0.2.2 fun n6=>
   Option.bind ((x0.1.set n2 (x0.2.1,y3.2)).set n4 (y5.1,IntKind.wrap .i64 (x0.2.1+(1:Int)),y5.2.2))[n6]? fun y7=>
   bnd (((x0.1.set n2 (x0.2.1,y3.2)).set n4 (y5.1,IntKind.wrap .i64 (x0.2.1+(1:Int)),y5.2.2)).set n6 (y7.1,y7.2.1,IntKind.wrap .i64 ((IntKind.wrap .i64 (x0.2.1+(1:Int)))+(1:Int)),y7.2.2.2)).length x0.2.2 fun n8=>
   Option.bind (((x0.1.set n2 (x0.2.1,y3.2)).set n4 (y5.1,IntKind.wrap .i64 (x0.2.1+(1:Int)),y5.2.2)).set n6 (y7.1,y7.2.1,IntKind.wrap .i64 ((IntKind.wrap .i64 (x0.2.1+(1:Int)))+(1:Int)),y7.2.2.2))[n8]? fun y9=>
   bnd ((((x0.1.set n2 (x0.2.1,y3.2)).set n4 (y5.1,IntKind.wrap .i64 (x0.2.1+(1:Int)),y5.2.2)).set n6 (y7.1,y7.2.1,IntKind.wrap .i64 ((IntKind.wrap .i64 (x0.2.1+(1:Int)))+(1:Int)),y7.2.2.2)).set n8 (y9.1,y9.2.1,y9.2.2.1,IntKind.wrap .i64 ((IntKind.wrap .i64 ((IntKind.wrap .i64 (x0.2.1+(1:Int)))+(1:Int)))+(1:Int)),y9.2.2.2.2)).length x0.2.2 fun n10=>
   Option.bind ((((x0.1.set n2 (x0.2.1,y3.2)).set n4 (y5.1,IntKind.wrap .i64 (x0.2.1+(1:Int)),y5.2.2)).set n6 (y7.1,y7.2.1,IntKind.wrap .i64 ((IntKind.wrap .i64 (x0.2.1+(1:Int)))+(1:Int)),y7.2.2.2)).set n8 (y9.1,y9.2.1,y9.2.2.1,IntKind.wrap .i64 ((IntKind.wrap .i64 ((IntKind.wrap .i64 (x0.2.1+(1:Int)))+(1:Int)))+(1:Int)),y9.2.2.2.2))[n10]? fun y11=>
   bnd (((((x0.1.set n2 (x0.2.1,y3.2)).set n4 (y5.1,IntKind.wrap .i64 (x0.2.1+(1:Int)),y5.2.2)).set n6 (y7.1,y7.2.1,IntKind.wrap .i64 ((IntKind.wrap .i64 (x0.2.1+(1:Int)))+(1:Int)),y7.2.2.2)).set n8 (y9.1,y9.2.1,y9.2.2.1,IntKind.wrap .i64 ((IntKind.wrap .i64 ((IntKind.wrap .i64 (x0.2.1+(1:Int)))+(1:Int)))+(1:Int)),y9.2.2.2.2)).set n10 (y11.1,y11.2.1,y11.2.2.1,y11.2.2.2.1,IntKind.wrap .i64 ((IntKind.wrap .i64 ((IntKind.wrap .i64 ((IntKind.wrap .i64 (x0.2.1+(1:Int)))+(1:Int)))+(1:Int)))+(1:Int)),y11.2.2.2.2.2)).length x0.2.2 fun n12=>
   Option.bind (((((x0.1.set n2 (x0.2.1,y3.2)).set n4 (y5.1,IntKind.wrap .i64 (x0.2.1+(1:Int)),y5.2.2)).set n6 (y7.1,y7.2.1,IntKind.wrap .i64 ((IntKind.wrap .i64 (x0.2.1+(1:Int)))+(1:Int)),y7.2.2.2)).set n8 (y9.1,y9.2.1,y9.2.2.1,IntKind.wrap .i64 ((IntKind.wrap .i64 ((IntKind.wrap .i64 (x0.2.1+(1:Int)))+(1:Int)))+(1:Int)),y9.2.2.2.2)).set n10 (y11.1,y11.2.1,y11.2.2.1,y11.2.2.2.1,IntKind.wrap .i64 ((IntKind.wrap .i64 ((IntKind.wrap .i64 ((IntKind.wrap .i64 (x0.2.1+(1:Int)))+(1:Int)))+(1:Int)))+(1:Int)),y11.2.2.2.2.2))[n12]? fun y13=>
   bnd ((((((x0.1.set n2 (x0.2.1,y3.2)).set n4 (y5.1,IntKind.wrap .i64 (x0.2.1+(1:Int)),y5.2.2)).set n6 (y7.1,y7.2.1,IntKind.wrap .i64 ((IntKind.wrap .i64 (x0.2.1+(1:Int)))+(1:Int)),y7.2.2.2)).set n8 (y9.1,y9.2.1,y9.2.2.1,IntKind.wrap .i64 ((IntKind.wrap .i64 ((IntKind.wrap .i64 (x0.2.1+(1:Int)))+(1:Int)))+(1:Int)),y9.2.2.2.2)).set n10 (y11.1,y11.2.1,y11.2.2.1,y11.2.2.2.1,IntKind.wrap .i64 ((IntKind.wrap .i64 ((IntKind.wrap .i64 ((IntKind.wrap .i64 (x0.2.1+(1:Int)))+(1:Int)))+(1:Int)))+(1:Int)),y11.2.2.2.2.2)).set n12 (y13.1,y13.2.1,y13.2.2.1,y13.2.2.2.1,y13.2.2.2.2.1,IntKind.wrap .i64 ((IntKind.wrap .i64 ((IntKind.wrap .i64 ((IntKind.wrap .i64 ((IntKind.wrap .i64 (x0.2.1+(1:Int)))+(1:Int)))+(1:Int)))+(1:Int)))+(1:Int)),y13.2.2.2.2.2.2)).length x0.2.2 fun n14=>
   Option.bind ((((((x0.1.set n2 (x0.2.1,y3.2)).set n4 (y5.1,IntKind.wrap .i64 (x0.2.1+(1:Int)),y5.2.2)).set n6 (y7.1,y7.2.1,IntKind.wrap .i64 ((IntKind.wrap .i64 (x0.2.1+(1:Int)))+(1:Int)),y7.2.2.2)).set n8 (y9.1,y9.2.1,y9.2.2.1,IntKind.wrap .i64 ((IntKind.wrap .i64 ((IntKind.wrap .i64 (x0.2.1+(1:Int)))+(1:Int)))+(1:Int)),y9.2.2.2.2)).set n10 (y11.1,y11.2.1,y11.2.2.1,y11.2.2.2.1,IntKind.wrap .i64 ((IntKind.wrap .i64 ((IntKind.wrap .i64 ((IntKind.wrap .i64 (x0.2.1+(1:Int)))+(1:Int)))+(1:Int)))+(1:Int)),y11.2.2.2.2.2)).set n12 (y13.1,y13.2.1,y13.2.2.1,y13.2.2.2.1,y13.2.2.2.2.1,IntKind.wrap .i64 ((IntKind.wrap .i64 ((IntKind.wrap .i64 ((IntKind.wrap .i64 ((IntKind.wrap .i64 (x0.2.1+(1:Int)))+(1:Int)))+(1:Int)))+(1:Int)))+(1:Int)),y13.2.2.2.2.2.2))[n14]? fun y15=>
   bif decide ((3:Int)=0) then
    none
   else bnd (((((((x0.1.set n2 (x0.2.1,y3.2)).set n4 (y5.1,IntKind.wrap .i64 (x0.2.1+(1:Int)),y5.2.2)).set n6 (y7.1,y7.2.1,IntKind.wrap .i64 ((IntKind.wrap .i64 (x0.2.1+(1:Int)))+(1:Int)),y7.2.2.2)).set n8 (y9.1,y9.2.1,y9.2.2.1,IntKind.wrap .i64 ((IntKind.wrap .i64 ((IntKind.wrap .i64 (x0.2.1+(1:Int)))+(1:Int)))+(1:Int)),y9.2.2.2.2)).set n10 (y11.1,y11.2.1,y11.2.2.1,y11.2.2.2.1,IntKind.wrap .i64 ((IntKind.wrap .i64 ((IntKind.wrap .i64 ((IntKind.wrap .i64 (x0.2.1+(1:Int)))+(1:Int)))+(1:Int)))+(1:Int)),y11.2.2.2.2.2)).set n12 (y13.1,y13.2.1,y13.2.2.1,y13.2.2.2.1,y13.2.2.2.2.1,IntKind.wrap .i64 ((IntKind.wrap .i64 ((IntKind.wrap .i64 ((IntKind.wrap .i64 ((IntKind.wrap .i64 (x0.2.1+(1:Int)))+(1:Int)))+(1:Int)))+(1:Int)))+(1:Int)),y13.2.2.2.2.2.2)).set n14 (y15.1,y15.2.1,y15.2.2.1,y15.2.2.2.1,y15.2.2.2.2.1,y15.2.2.2.2.2.1,IntKind.wrap .i64 ((IntKind.wrap .i64 ((IntKind.wrap .i64 ((IntKind.wrap .i64 ((IntKind.wrap .i64 ((IntKind.wrap .i64 (x0.2.1+(1:Int)))+(1:Int)))+(1:Int)))+(1:Int)))+(1:Int)))+(1:Int)),y15.2.2.2.2.2.2.2)).length x0.2.2 fun n16=>
   Option.bind (((((((x0.1.set n2 (x0.2.1,y3.2)).set n4 (y5.1,IntKind.wrap .i64 (x0.2.1+(1:Int)),y5.2.2)).set n6 (y7.1,y7.2.1,IntKind.wrap .i64 ((IntKind.wrap .i64 (x0.2.1+(1:Int)))+(1:Int)),y7.2.2.2)).set n8 (y9.1,y9.2.1,y9.2.2.1,IntKind.wrap .i64 ((IntKind.wrap .i64 ((IntKind.wrap .i64 (x0.2.1+(1:Int)))+(1:Int)))+(1:Int)),y9.2.2.2.2)).set n10 (y11.1,y11.2.1,y11.2.2.1,y11.2.2.2.1,IntKind.wrap .i64 ((IntKind.wrap .i64 ((IntKind.wrap .i64 ((IntKind.wrap .i64 (x0.2.1+(1:Int)))+(1:Int)))+(1:Int)))+(1:Int)),y11.2.2.2.2.2)).set n12 (y13.1,y13.2.1,y13.2.2.1,y13.2.2.2.1,y13.2.2.2.2.1,IntKind.wrap .i64 ((IntKind.wrap .i64 ((IntKind.wrap .i64 ((IntKind.wrap .i64 ((IntKind.wrap .i64 (x0.2.1+(1:Int)))+(1:Int)))+(1:Int)))+(1:Int)))+(1:Int)),y13.2.2.2.2.2.2)).set n14 (y15.1,y15.2.1,y15.2.2.1,y15.2.2.2.1,y15.2.2.2.2.1,y15.2.2.2.2.2.1,IntKind.wrap .i64 ((IntKind.wrap .i64 ((IntKind.wrap .i64 ((IntKind.wrap .i64 ((IntKind.wrap .i64 ((IntKind.wrap .i64 (x0.2.1+(1:Int)))+(1:Int)))+(1:Int)))+(1:Int)))+(1:Int)))+(1:Int)),y15.2.2.2.2.2.2.2))[n16]? fun y17=>
   bnd ((((((((x0.1.set n2 (x0.2.1,y3.2)).set n4 (y5.1,IntKind.wrap .i64 (x0.2.1+(1:Int)),y5.2.2)).set n6 (y7.1,y7.2.1,IntKind.wrap .i64 ((IntKind.wrap .i64 (x0.2.1+(1:Int)))+(1:Int)),y7.2.2.2)).set n8 (y9.1,y9.2.1,y9.2.2.1,IntKind.wrap .i64 ((IntKind.wrap .i64 ((IntKind.wrap .i64 (x0.2.1+(1:Int)))+(1:Int)))+(1:Int)),y9.2.2.2.2)).set n10 (y11.1,y11.2.1,y11.2.2.1,y11.2.2.2.1,IntKind.wrap .i64 ((IntKind.wrap .i64 ((IntKind.wrap .i64 ((IntKind.wrap .i64 (x0.2.1+(1:Int)))+(1:Int)))+(1:Int)))+(1:Int)),y11.2.2.2.2.2)).set n12 (y13.1,y13.2.1,y13.2.2.1,y13.2.2.2.1,y13.2.2.2.2.1,IntKind.wrap .i64 ((IntKind.wrap .i64 ((IntKind.wrap .i64 ((IntKind.wrap .i64 ((IntKind.wrap .i64 (x0.2.1+(1:Int)))+(1:Int)))+(1:Int)))+(1:Int)))+(1:Int)),y13.2.2.2.2.2.2)).set n14 (y15.1,y15.2.1,y15.2.2.1,y15.2.2.2.1,y15.2.2.2.2.1,y15.2.2.2.2.2.1,IntKind.wrap .i64 ((IntKind.wrap .i64 ((IntKind.wrap .i64 ((IntKind.wrap .i64 ((IntKind.wrap .i64 ((IntKind.wrap .i64 (x0.2.1+(1:Int)))+(1:Int)))+(1:Int)))+(1:Int)))+(1:Int)))+(1:Int)),y15.2.2.2.2.2.2.2)).set n16 (y17.1,y17.2.1,y17.2.2.1,y17.2.2.2.1,y17.2.2.2.2.1,y17.2.2.2.2.2.1,y17.2.2.2.2.2.2.1,decide ((Int.tmod (IntKind.wrap .i64 ((IntKind.wrap .i64 ((IntKind.wrap .i64 ((IntKind.wrap .i64 ((IntKind.wrap .i64 ((IntKind.wrap .i64 ((IntKind.wrap .i64 (x0.2.1+(1:Int)))+(1:Int)))+(1:Int)))+(1:Int)))+(1:Int)))+(1:Int)))+(1:Int))) (3:Int))=(0:Int)),y17.2.2.2.2.2.2.2.2)).length x0.2.2 fun n18=>
   Option.bind ((((((((x0.1.set n2 (x0.2.1,y3.2)).set n4 (y5.1,IntKind.wrap .i64 (x0.2.1+(1:Int)),y5.2.2)).set n6 (y7.1,y7.2.1,IntKind.wrap .i64 ((IntKind.wrap .i64 (x0.2.1+(1:Int)))+(1:Int)),y7.2.2.2)).set n8 (y9.1,y9.2.1,y9.2.2.1,IntKind.wrap .i64 ((IntKind.wrap .i64 ((IntKind.wrap .i64 (x0.2.1+(1:Int)))+(1:Int)))+(1:Int)),y9.2.2.2.2)).set n10 (y11.1,y11.2.1,y11.2.2.1,y11.2.2.2.1,IntKind.wrap .i64 ((IntKind.wrap .i64 ((IntKind.wrap .i64 ((IntKind.wrap .i64 (x0.2.1+(1:Int)))+(1:Int)))+(1:Int)))+(1:Int)),y11.2.2.2.2.2)).set n12 (y13.1,y13.2.1,y13.2.2.1,y13.2.2.2.1,y13.2.2.2.2.1,IntKind.wrap .i64 ((IntKind.wrap .i64 ((IntKind.wrap .i64 ((IntKind.wrap .i64 ((IntKind.wrap .i64 (x0.2.1+(1:Int)))+(1:Int)))+(1:Int)))+(1:Int)))+(1:Int)),y13.2.2.2.2.2.2)).set n14 (y15.1,y15.2.1,y15.2.2.1,y15.2.2.2.1,y15.2.2.2.2.1,y15.2.2.2.2.2.1,IntKind.wrap .i64 ((IntKind.wrap .i64 ((IntKind.wrap .i64 ((IntKind.wrap .i64 ((IntKind.wrap .i64 ((IntKind.wrap .i64 (x0.2.1+(1:Int)))+(1:Int)))+(1:Int)))+(1:Int)))+(1:Int)))+(1:Int)),y15.2.2.2.2.2.2.2)).set n16 (y17.1,y17.2.1,y17.2.2.1,y17.2.2.2.1,y17.2.2.2.2.1,y17.2.2.2.2.2.1,y17.2.2.2.2.2.2.1,decide ((Int.tmod (IntKind.wrap .i64 ((IntKind.wrap .i64 ((IntKind.wrap .i64 ((IntKind.wrap .i64 ((IntKind.wrap .i64 ((IntKind.wrap .i64 ((IntKind.wrap .i64 (x0.2.1+(1:Int)))+(1:Int)))+(1:Int)))+(1:Int)))+(1:Int)))+(1:Int)))+(1:Int))) (3:Int))=(0:Int)),y17.2.2.2.2.2.2.2.2))[n18]? fun y19=>
   Option.bind (g_lmarkEdgeS (y19.2.2.2.2.2.2.2.2.1,IntKind.wrap .i64 ((IntKind.wrap .i64 ((IntKind.wrap .i64 ((IntKind.wrap .i64 ((IntKind.wrap .i64 ((IntKind.wrap .i64 ((IntKind.wrap .i64 ((IntKind.wrap .i64 (x0.2.1+(1:Int)))+(1:Int)))+(1:Int)))+(1:Int)))+(1:Int)))+(1:Int)))+(1:Int)))+(1:Int)))) fun r20=>
   Option.bind ((((((((x0.1.set n2 (x0.2.1,y3.2)).set n4 (y5.1,IntKind.wrap .i64 (x0.2.1+(1:Int)),y5.2.2)).set n6 (y7.1,y7.2.1,IntKind.wrap .i64 ((IntKind.wrap .i64 (x0.2.1+(1:Int)))+(1:Int)),y7.2.2.2)).set n8 (y9.1,y9.2.1,y9.2.2.1,IntKind.wrap .i64 ((IntKind.wrap .i64 ((IntKind.wrap .i64 (x0.2.1+(1:Int)))+(1:Int)))+(1:Int)),y9.2.2.2.2)).set n10 (y11.1,y11.2.1,y11.2.2.1,y11.2.2.2.1,IntKind.wrap .i64 ((IntKind.wrap .i64 ((IntKind.wrap .i64 ((IntKind.wrap .i64 (x0.2.1+(1:Int)))+(1:Int)))+(1:Int)))+(1:Int)),y11.2.2.2.2.2)).set n12 (y13.1,y13.2.1,y13.2.2.1,y13.2.2.2.1,y13.2.2.2.2.1,IntKind.wrap .i64 ((IntKind.wrap .i64 ((IntKind.wrap .i64 ((IntKind.wrap .i64 ((IntKind.wrap .i64 (x0.2.1+(1:Int)))+(1:Int)))+(1:Int)))+(1:Int)))+(1:Int)),y13.2.2.2.2.2.2)).set n14 (y15.1,y15.2.1,y15.2.2.1,y15.2.2.2.1,y15.2.2.2.2.1,y15.2.2.2.2.2.1,IntKind.wrap .i64 ((IntKind.wrap .i64 ((IntKind.wrap .i64 ((IntKind.wrap .i64 ((IntKind.wrap .i64 ((IntKind.wrap .i64 (x0.2.1+(1:Int)))+(1:Int)))+(1:Int)))+(1:Int)))+(1:Int)))+(1:Int)),y15.2.2.2.2.2.2.2)).set n16 (y17.1,y17.2.1,y17.2.2.1,y17.2.2.2.1,y17.2.2.2.2.1,y17.2.2.2.2.2.1,y17.2.2.2.2.2.2.1,decide ((Int.tmod (IntKind.wrap .i64 ((IntKind.wrap .i64 ((IntKind.wrap .i64 ((IntKind.wrap .i64 ((IntKind.wrap .i64 ((IntKind.wrap .i64 ((IntKind.wrap .i64 (x0.2.1+(1:Int)))+(1:Int)))+(1:Int)))+(1:Int)))+(1:Int)))+(1:Int)))+(1:Int))) (3:Int))=(0:Int)),y17.2.2.2.2.2.2.2.2))[n18]? fun y21=>
   bnd (((((((((x0.1.set n2 (x0.2.1,y3.2)).set n4 (y5.1,IntKind.wrap .i64 (x0.2.1+(1:Int)),y5.2.2)).set n6 (y7.1,y7.2.1,IntKind.wrap .i64 ((IntKind.wrap .i64 (x0.2.1+(1:Int)))+(1:Int)),y7.2.2.2)).set n8 (y9.1,y9.2.1,y9.2.2.1,IntKind.wrap .i64 ((IntKind.wrap .i64 ((IntKind.wrap .i64 (x0.2.1+(1:Int)))+(1:Int)))+(1:Int)),y9.2.2.2.2)).set n10 (y11.1,y11.2.1,y11.2.2.1,y11.2.2.2.1,IntKind.wrap .i64 ((IntKind.wrap .i64 ((IntKind.wrap .i64 ((IntKind.wrap .i64 (x0.2.1+(1:Int)))+(1:Int)))+(1:Int)))+(1:Int)),y11.2.2.2.2.2)).set n12 (y13.1,y13.2.1,y13.2.2.1,y13.2.2.2.1,y13.2.2.2.2.1,IntKind.wrap .i64 ((IntKind.wrap .i64 ((IntKind.wrap .i64 ((IntKind.wrap .i64 ((IntKind.wrap .i64 (x0.2.1+(1:Int)))+(1:Int)))+(1:Int)))+(1:Int)))+(1:Int)),y13.2.2.2.2.2.2)).set n14 (y15.1,y15.2.1,y15.2.2.1,y15.2.2.2.1,y15.2.2.2.2.1,y15.2.2.2.2.2.1,IntKind.wrap .i64 ((IntKind.wrap .i64 ((IntKind.wrap .i64 ((IntKind.wrap .i64 ((IntKind.wrap .i64 ((IntKind.wrap .i64 (x0.2.1+(1:Int)))+(1:Int)))+(1:Int)))+(1:Int)))+(1:Int)))+(1:Int)),y15.2.2.2.2.2.2.2)).set n16 (y17.1,y17.2.1,y17.2.2.1,y17.2.2.2.1,y17.2.2.2.2.1,y17.2.2.2.2.2.1,y17.2.2.2.2.2.2.1,decide ((Int.tmod (IntKind.wrap .i64 ((IntKind.wrap .i64 ((IntKind.wrap .i64 ((IntKind.wrap .i64 ((IntKind.wrap .i64 ((IntKind.wrap .i64 ((IntKind.wrap .i64 (x0.2.1+(1:Int)))+(1:Int)))+(1:Int)))+(1:Int)))+(1:Int)))+(1:Int)))+(1:Int))) (3:Int))=(0:Int)),y17.2.2.2.2.2.2.2.2)).set n18 (y21.1,y21.2.1,y21.2.2.1,y21.2.2.2.1,y21.2.2.2.2.1,y21.2.2.2.2.2.1,y21.2.2.2.2.2.2.1,y21.2.2.2.2.2.2.2.1,r20.2,y21.2.2.2.2.2.2.2.2.2)).length x0.2.2 fun n22=>
   Option.bind (((((((((x0.1.set n2 (x0.2.1,y3.2)).set n4 (y5.1,IntKind.wrap .i64 (x0.2.1+(1:Int)),y5.2.2)).set n6 (y7.1,y7.2.1,IntKind.wrap .i64 ((IntKind.wrap .i64 (x0.2.1+(1:Int)))+(1:Int)),y7.2.2.2)).set n8 (y9.1,y9.2.1,y9.2.2.1,IntKind.wrap .i64 ((IntKind.wrap .i64 ((IntKind.wrap .i64 (x0.2.1+(1:Int)))+(1:Int)))+(1:Int)),y9.2.2.2.2)).set n10 (y11.1,y11.2.1,y11.2.2.1,y11.2.2.2.1,IntKind.wrap .i64 ((IntKind.wrap .i64 ((IntKind.wrap .i64 ((IntKind.wrap .i64 (x0.2.1+(1:Int)))+(1:Int)))+(1:Int)))+(1:Int)),y11.2.2.2.2.2)).set n12 (y13.1,y13.2.1,y13.2.2.1,y13.2.2.2.1,y13.2.2.2.2.1,IntKind.wrap .i64 ((IntKind.wrap .i64 ((IntKind.wrap .i64 ((IntKind.wrap .i64 ((IntKind.wrap .i64 (x0.2.1+(1:Int)))+(1:Int)))+(1:Int)))+(1:Int)))+(1:Int)),y13.2.2.2.2.2.2)).set n14 (y15.1,y15.2.1,y15.2.2.1,y15.2.2.2.1,y15.2.2.2.2.1,y15.2.2.2.2.2.1,IntKind.wrap .i64 ((IntKind.wrap .i64 ((IntKind.wrap .i64 ((IntKind.wrap .i64 ((IntKind.wrap .i64 ((IntKind.wrap .i64 (x0.2.1+(1:Int)))+(1:Int)))+(1:Int)))+(1:Int)))+(1:Int)))+(1:Int)),y15.2.2.2.2.2.2.2)).set n16 (y17.1,y17.2.1,y17.2.2.1,y17.2.2.2.1,y17.2.2.2.2.1,y17.2.2.2.2.2.1,y17.2.2.2.2.2.2.1,decide ((Int.tmod (IntKind.wrap .i64 ((IntKind.wrap .i64 ((IntKind.wrap .i64 ((IntKind.wrap .i64 ((IntKind.wrap .i64 ((IntKind.wrap .i64 ((IntKind.wrap .i64 (x0.2.1+(1:Int)))+(1:Int)))+(1:Int)))+(1:Int)))+(1:Int)))+(1:Int)))+(1:Int))) (3:Int))=(0:Int)),y17.2.2.2.2.2.2.2.2)).set n18 (y21.1,y21.2.1,y21.2.2.1,y21.2.2.2.1,y21.2.2.2.2.1,y21.2.2.2.2.2.1,y21.2.2.2.2.2.2.1,y21.2.2.2.2.2.2.2.1,r20.2,y21.2.2.2.2.2.2.2.2.2))[n22]? fun y23=>
   Option.bind (g_lmarkIntS (y23.2.2.2.2.2.2.2.2.2.1,r20.1)) fun r24=>
   Option.bind (((((((((x0.1.set n2 (x0.2.1,y3.2)).set n4 (y5.1,IntKind.wrap .i64 (x0.2.1+(1:Int)),y5.2.2)).set n6 (y7.1,y7.2.1,IntKind.wrap .i64 ((IntKind.wrap .i64 (x0.2.1+(1:Int)))+(1:Int)),y7.2.2.2)).set n8 (y9.1,y9.2.1,y9.2.2.1,IntKind.wrap .i64 ((IntKind.wrap .i64 ((IntKind.wrap .i64 (x0.2.1+(1:Int)))+(1:Int)))+(1:Int)),y9.2.2.2.2)).set n10 (y11.1,y11.2.1,y11.2.2.1,y11.2.2.2.1,IntKind.wrap .i64 ((IntKind.wrap .i64 ((IntKind.wrap .i64 ((IntKind.wrap .i64 (x0.2.1+(1:Int)))+(1:Int)))+(1:Int)))+(1:Int)),y11.2.2.2.2.2)).set n12 (y13.1,y13.2.1,y13.2.2.1,y13.2.2.2.1,y13.2.2.2.2.1,IntKind.wrap .i64 ((IntKind.wrap .i64 ((IntKind.wrap .i64 ((IntKind.wrap .i64 ((IntKind.wrap .i64 (x0.2.1+(1:Int)))+(1:Int)))+(1:Int)))+(1:Int)))+(1:Int)),y13.2.2.2.2.2.2)).set n14 (y15.1,y15.2.1,y15.2.2.1,y15.2.2.2.1,y15.2.2.2.2.1,y15.2.2.2.2.2.1,IntKind.wrap .i64 ((IntKind.wrap .i64 ((IntKind.wrap .i64 ((IntKind.wrap .i64 ((IntKind.wrap .i64 ((IntKind.wrap .i64 (x0.2.1+(1:Int)))+(1:Int)))+(1:Int)))+(1:Int)))+(1:Int)))+(1:Int)),y15.2.2.2.2.2.2.2)).set n16 (y17.1,y17.2.1,y17.2.2.1,y17.2.2.2.1,y17.2.2.2.2.1,y17.2.2.2.2.2.1,y17.2.2.2.2.2.2.1,decide ((Int.tmod (IntKind.wrap .i64 ((IntKind.wrap .i64 ((IntKind.wrap .i64 ((IntKind.wrap .i64 ((IntKind.wrap .i64 ((IntKind.wrap .i64 ((IntKind.wrap .i64 (x0.2.1+(1:Int)))+(1:Int)))+(1:Int)))+(1:Int)))+(1:Int)))+(1:Int)))+(1:Int))) (3:Int))=(0:Int)),y17.2.2.2.2.2.2.2.2)).set n18 (y21.1,y21.2.1,y21.2.2.1,y21.2.2.2.1,y21.2.2.2.2.1,y21.2.2.2.2.2.1,y21.2.2.2.2.2.2.1,y21.2.2.2.2.2.2.2.1,r20.2,y21.2.2.2.2.2.2.2.2.2))[n22]? fun y25=>
   bnd ((((((((((x0.1.set n2 (x0.2.1,y3.2)).set n4 (y5.1,IntKind.wrap .i64 (x0.2.1+(1:Int)),y5.2.2)).set n6 (y7.1,y7.2.1,IntKind.wrap .i64 ((IntKind.wrap .i64 (x0.2.1+(1:Int)))+(1:Int)),y7.2.2.2)).set n8 (y9.1,y9.2.1,y9.2.2.1,IntKind.wrap .i64 ((IntKind.wrap .i64 ((IntKind.wrap .i64 (x0.2.1+(1:Int)))+(1:Int)))+(1:Int)),y9.2.2.2.2)).set n10 (y11.1,y11.2.1,y11.2.2.1,y11.2.2.2.1,IntKind.wrap .i64 ((IntKind.wrap .i64 ((IntKind.wrap .i64 ((IntKind.wrap .i64 (x0.2.1+(1:Int)))+(1:Int)))+(1:Int)))+(1:Int)),y11.2.2.2.2.2)).set n12 (y13.1,y13.2.1,y13.2.2.1,y13.2.2.2.1,y13.2.2.2.2.1,IntKind.wrap .i64 ((IntKind.wrap .i64 ((IntKind.wrap .i64 ((IntKind.wrap .i64 ((IntKind.wrap .i64 (x0.2.1+(1:Int)))+(1:Int)))+(1:Int)))+(1:Int)))+(1:Int)),y13.2.2.2.2.2.2)).set n14 (y15.1,y15.2.1,y15.2.2.1,y15.2.2.2.1,y15.2.2.2.2.1,y15.2.2.2.2.2.1,IntKind.wrap .i64 ((IntKind.wrap .i64 ((IntKind.wrap .i64 ((IntKind.wrap .i64 ((IntKind.wrap .i64 ((IntKind.wrap .i64 (x0.2.1+(1:Int)))+(1:Int)))+(1:Int)))+(1:Int)))+(1:Int)))+(1:Int)),y15.2.2.2.2.2.2.2)).set n16 (y17.1,y17.2.1,y17.2.2.1,y17.2.2.2.1,y17.2.2.2.2.1,y17.2.2.2.2.2.1,y17.2.2.2.2.2.2.1,decide ((Int.tmod (IntKind.wrap .i64 ((IntKind.wrap .i64 ((IntKind.wrap .i64 ((IntKind.wrap .i64 ((IntKind.wrap .i64 ((IntKind.wrap .i64 ((IntKind.wrap .i64 (x0.2.1+(1:Int)))+(1:Int)))+(1:Int)))+(1:Int)))+(1:Int)))+(1:Int)))+(1:Int))) (3:Int))=(0:Int)),y17.2.2.2.2.2.2.2.2)).set n18 (y21.1,y21.2.1,y21.2.2.1,y21.2.2.2.1,y21.2.2.2.2.1,y21.2.2.2.2.2.1,y21.2.2.2.2.2.2.1,y21.2.2.2.2.2.2.2.1,r20.2,y21.2.2.2.2.2.2.2.2.2)).set n22 (y25.1,y25.2.1,y25.2.2.1,y25.2.2.2.1,y25.2.2.2.2.1,y25.2.2.2.2.2.1,y25.2.2.2.2.2.2.1,y25.2.2.2.2.2.2.2.1,y25.2.2.2.2.2.2.2.2.1,r24.2,y25.2.2.2.2.2.2.2.2.2.2)).length x0.2.2 fun n26=>
   Option.bind ((((((((((x0.1.set n2 (x0.2.1,y3.2)).set n4 (y5.1,IntKind.wrap .i64 (x0.2.1+(1:Int)),y5.2.2)).set n6 (y7.1,y7.2.1,IntKind.wrap .i64 ((IntKind.wrap .i64 (x0.2.1+(1:Int)))+(1:Int)),y7.2.2.2)).set n8 (y9.1,y9.2.1,y9.2.2.1,IntKind.wrap .i64 ((IntKind.wrap .i64 ((IntKind.wrap .i64 (x0.2.1+(1:Int)))+(1:Int)))+(1:Int)),y9.2.2.2.2)).set n10 (y11.1,y11.2.1,y11.2.2.1,y11.2.2.2.1,IntKind.wrap .i64 ((IntKind.wrap .i64 ((IntKind.wrap .i64 ((IntKind.wrap .i64 (x0.2.1+(1:Int)))+(1:Int)))+(1:Int)))+(1:Int)),y11.2.2.2.2.2)).set n12 (y13.1,y13.2.1,y13.2.2.1,y13.2.2.2.1,y13.2.2.2.2.1,IntKind.wrap .i64 ((IntKind.wrap .i64 ((IntKind.wrap .i64 ((IntKind.wrap .i64 ((IntKind.wrap .i64 (x0.2.1+(1:Int)))+(1:Int)))+(1:Int)))+(1:Int)))+(1:Int)),y13.2.2.2.2.2.2)).set n14 (y15.1,y15.2.1,y15.2.2.1,y15.2.2.2.1,y15.2.2.2.2.1,y15.2.2.2.2.2.1,IntKind.wrap .i64 ((IntKind.wrap .i64 ((IntKind.wrap .i64 ((IntKind.wrap .i64 ((IntKind.wrap .i64 ((IntKind.wrap .i64 (x0.2.1+(1:Int)))+(1:Int)))+(1:Int)))+(1:Int)))+(1:Int)))+(1:Int)),y15.2.2.2.2.2.2.2)).set n16 (y17.1,y17.2.1,y17.2.2.1,y17.2.2.2.1,y17.2.2.2.2.1,y17.2.2.2.2.2.1,y17.2.2.2.2.2.2.1,decide ((Int.tmod (IntKind.wrap .i64 ((IntKind.wrap .i64 ((IntKind.wrap .i64 ((IntKind.wrap .i64 ((IntKind.wrap .i64 ((IntKind.wrap .i64 ((IntKind.wrap .i64 (x0.2.1+(1:Int)))+(1:Int)))+(1:Int)))+(1:Int)))+(1:Int)))+(1:Int)))+(1:Int))) (3:Int))=(0:Int)),y17.2.2.2.2.2.2.2.2)).set n18 (y21.1,y21.2.1,y21.2.2.1,y21.2.2.2.1,y21.2.2.2.2.1,y21.2.2.2.2.2.1,y21.2.2.2.2.2.2.1,y21.2.2.2.2.2.2.2.1,r20.2,y21.2.2.2.2.2.2.2.2.2)).set n22 (y25.1,y25.2.1,y25.2.2.1,y25.2.2.2.1,y25.2.2.2.2.1,y25.2.2.2.2.2.1,y25.2.2.2.2.2.2.1,y25.2.2.2.2.2.2.2.1,y25.2.2.2.2.2.2.2.2.1,r24.2,y25.2.2.2.2.2.2.2.2.2.2))[n26]? fun y27=>
   bnd (((((((((((x0.1.set n2 (x0.2.1,y3.2)).set n4 (y5.1,IntKind.wrap .i64 (x0.2.1+(1:Int)),y5.2.2)).set n6 (y7.1,y7.2.1,IntKind.wrap .i64 ((IntKind.wrap .i64 (x0.2.1+(1:Int)))+(1:Int)),y7.2.2.2)).set n8 (y9.1,y9.2.1,y9.2.2.1,IntKind.wrap .i64 ((IntKind.wrap .i64 ((IntKind.wrap .i64 (x0.2.1+(1:Int)))+(1:Int)))+(1:Int)),y9.2.2.2.2)).set n10 (y11.1,y11.2.1,y11.2.2.1,y11.2.2.2.1,IntKind.wrap .i64 ((IntKind.wrap .i64 ((IntKind.wrap .i64 ((IntKind.wrap .i64 (x0.2.1+(1:Int)))+(1:Int)))+(1:Int)))+(1:Int)),y11.2.2.2.2.2)).set n12 (y13.1,y13.2.1,y13.2.2.1,y13.2.2.2.1,y13.2.2.2.2.1,IntKind.wrap .i64 ((IntKind.wrap .i64 ((IntKind.wrap .i64 ((IntKind.wrap .i64 ((IntKind.wrap .i64 (x0.2.1+(1:Int)))+(1:Int)))+(1:Int)))+(1:Int)))+(1:Int)),y13.2.2.2.2.2.2)).set n14 (y15.1,y15.2.1,y15.2.2.1,y15.2.2.2.1,y15.2.2.2.2.1,y15.2.2.2.2.2.1,IntKind.wrap .i64 ((IntKind.wrap .i64 ((IntKind.wrap .i64 ((IntKind.wrap .i64 ((IntKind.wrap .i64 ((IntKind.wrap .i64 (x0.2.1+(1:Int)))+(1:Int)))+(1:Int)))+(1:Int)))+(1:Int)))+(1:Int)),y15.2.2.2.2.2.2.2)).set n16 (y17.1,y17.2.1,y17.2.2.1,y17.2.2.2.1,y17.2.2.2.2.1,y17.2.2.2.2.2.1,y17.2.2.2.2.2.2.1,decide ((Int.tmod (IntKind.wrap .i64 ((IntKind.wrap .i64 ((IntKind.wrap .i64 ((IntKind.wrap .i64 ((IntKind.wrap .i64 ((IntKind.wrap .i64 ((IntKind.wrap .i64 (x0.2.1+(1:Int)))+(1:Int)))+(1:Int)))+(1:Int)))+(1:Int)))+(1:Int)))+(1:Int))) (3:Int))=(0:Int)),y17.2.2.2.2.2.2.2.2)).set n18 (y21.1,y21.2.1,y21.2.2.1,y21.2.2.2.1,y21.2.2.2.2.1,y21.2.2.2.2.2.1,y21.2.2.2.2.2.2.1,y21.2.2.2.2.2.2.2.1,r20.2,y21.2.2.2.2.2.2.2.2.2)).set n22 (y25.1,y25.2.1,y25.2.2.1,y25.2.2.2.1,y25.2.2.2.2.1,y25.2.2.2.2.2.1,y25.2.2.2.2.2.2.1,y25.2.2.2.2.2.2.2.1,y25.2.2.2.2.2.2.2.2.1,r24.2,y25.2.2.2.2.2.2.2.2.2.2)).set n26 (y27.1,y27.2.1,y27.2.2.1,y27.2.2.2.1,y27.2.2.2.2.1,y27.2.2.2.2.2.1,y27.2.2.2.2.2.2.1,y27.2.2.2.2.2.2.2.1,y27.2.2.2.2.2.2.2.2.1,y27.2.2.2.2.2.2.2.2.2.1,r24.1,y27.2.2.2.2.2.2.2.2.2.2.2)).length x0.2.2 fun n28=>
   Option.bind (((((((((((x0.1.set n2 (x0.2.1,y3.2)).set n4 (y5.1,IntKind.wrap .i64 (x0.2.1+(1:Int)),y5.2.2)).set n6 (y7.1,y7.2.1,IntKind.wrap .i64 ((IntKind.wrap .i64 (x0.2.1+(1:Int)))+(1:Int)),y7.2.2.2)).set n8 (y9.1,y9.2.1,y9.2.2.1,IntKind.wrap .i64 ((IntKind.wrap .i64 ((IntKind.wrap .i64 (x0.2.1+(1:Int)))+(1:Int)))+(1:Int)),y9.2.2.2.2)).set n10 (y11.1,y11.2.1,y11.2.2.1,y11.2.2.2.1,IntKind.wrap .i64 ((IntKind.wrap .i64 ((IntKind.wrap .i64 ((IntKind.wrap .i64 (x0.2.1+(1:Int)))+(1:Int)))+(1:Int)))+(1:Int)),y11.2.2.2.2.2)).set n12 (y13.1,y13.2.1,y13.2.2.1,y13.2.2.2.1,y13.2.2.2.2.1,IntKind.wrap .i64 ((IntKind.wrap .i64 ((IntKind.wrap .i64 ((IntKind.wrap .i64 ((IntKind.wrap .i64 (x0.2.1+(1:Int)))+(1:Int)))+(1:Int)))+(1:Int)))+(1:Int)),y13.2.2.2.2.2.2)).set n14 (y15.1,y15.2.1,y15.2.2.1,y15.2.2.2.1,y15.2.2.2.2.1,y15.2.2.2.2.2.1,IntKind.wrap .i64 ((IntKind.wrap .i64 ((IntKind.wrap .i64 ((IntKind.wrap .i64 ((IntKind.wrap .i64 ((IntKind.wrap .i64 (x0.2.1+(1:Int)))+(1:Int)))+(1:Int)))+(1:Int)))+(1:Int)))+(1:Int)),y15.2.2.2.2.2.2.2)).set n16 (y17.1,y17.2.1,y17.2.2.1,y17.2.2.2.1,y17.2.2.2.2.1,y17.2.2.2.2.2.1,y17.2.2.2.2.2.2.1,decide ((Int.tmod (IntKind.wrap .i64 ((IntKind.wrap .i64 ((IntKind.wrap .i64 ((IntKind.wrap .i64 ((IntKind.wrap .i64 ((IntKind.wrap .i64 ((IntKind.wrap .i64 (x0.2.1+(1:Int)))+(1:Int)))+(1:Int)))+(1:Int)))+(1:Int)))+(1:Int)))+(1:Int))) (3:Int))=(0:Int)),y17.2.2.2.2.2.2.2.2)).set n18 (y21.1,y21.2.1,y21.2.2.1,y21.2.2.2.1,y21.2.2.2.2.1,y21.2.2.2.2.2.1,y21.2.2.2.2.2.2.1,y21.2.2.2.2.2.2.2.1,r20.2,y21.2.2.2.2.2.2.2.2.2)).set n22 (y25.1,y25.2.1,y25.2.2.1,y25.2.2.2.1,y25.2.2.2.2.1,y25.2.2.2.2.2.1,y25.2.2.2.2.2.2.1,y25.2.2.2.2.2.2.2.1,y25.2.2.2.2.2.2.2.2.1,r24.2,y25.2.2.2.2.2.2.2.2.2.2)).set n26 (y27.1,y27.2.1,y27.2.2.1,y27.2.2.2.1,y27.2.2.2.2.1,y27.2.2.2.2.2.1,y27.2.2.2.2.2.2.1,y27.2.2.2.2.2.2.2.1,y27.2.2.2.2.2.2.2.2.1,y27.2.2.2.2.2.2.2.2.2.1,r24.1,y27.2.2.2.2.2.2.2.2.2.2.2))[n28]? fun y29=>
   bnd ((((((((((((x0.1.set n2 (x0.2.1,y3.2)).set n4 (y5.1,IntKind.wrap .i64 (x0.2.1+(1:Int)),y5.2.2)).set n6 (y7.1,y7.2.1,IntKind.wrap .i64 ((IntKind.wrap .i64 (x0.2.1+(1:Int)))+(1:Int)),y7.2.2.2)).set n8 (y9.1,y9.2.1,y9.2.2.1,IntKind.wrap .i64 ((IntKind.wrap .i64 ((IntKind.wrap .i64 (x0.2.1+(1:Int)))+(1:Int)))+(1:Int)),y9.2.2.2.2)).set n10 (y11.1,y11.2.1,y11.2.2.1,y11.2.2.2.1,IntKind.wrap .i64 ((IntKind.wrap .i64 ((IntKind.wrap .i64 ((IntKind.wrap .i64 (x0.2.1+(1:Int)))+(1:Int)))+(1:Int)))+(1:Int)),y11.2.2.2.2.2)).set n12 (y13.1,y13.2.1,y13.2.2.1,y13.2.2.2.1,y13.2.2.2.2.1,IntKind.wrap .i64 ((IntKind.wrap .i64 ((IntKind.wrap .i64 ((IntKind.wrap .i64 ((IntKind.wrap .i64 (x0.2.1+(1:Int)))+(1:Int)))+(1:Int)))+(1:Int)))+(1:Int)),y13.2.2.2.2.2.2)).set n14 (y15.1,y15.2.1,y15.2.2.1,y15.2.2.2.1,y15.2.2.2.2.1,y15.2.2.2.2.2.1,IntKind.wrap .i64 ((IntKind.wrap .i64 ((IntKind.wrap .i64 ((IntKind.wrap .i64 ((IntKind.wrap .i64 ((IntKind.wrap .i64 (x0.2.1+(1:Int)))+(1:Int)))+(1:Int)))+(1:Int)))+(1:Int)))+(1:Int)),y15.2.2.2.2.2.2.2)).set n16 (y17.1,y17.2.1,y17.2.2.1,y17.2.2.2.1,y17.2.2.2.2.1,y17.2.2.2.2.2.1,y17.2.2.2.2.2.2.1,decide ((Int.tmod (IntKind.wrap .i64 ((IntKind.wrap .i64 ((IntKind.wrap .i64 ((IntKind.wrap .i64 ((IntKind.wrap .i64 ((IntKind.wrap .i64 ((IntKind.wrap .i64 (x0.2.1+(1:Int)))+(1:Int)))+(1:Int)))+(1:Int)))+(1:Int)))+(1:Int)))+(1:Int))) (3:Int))=(0:Int)),y17.2.2.2.2.2.2.2.2)).set n18 (y21.1,y21.2.1,y21.2.2.1,y21.2.2.2.1,y21.2.2.2.2.1,y21.2.2.2.2.2.1,y21.2.2.2.2.2.2.1,y21.2.2.2.2.2.2.2.1,r20.2,y21.2.2.2.2.2.2.2.2.2)).set n22 (y25.1,y25.2.1,y25.2.2.1,y25.2.2.2.1,y25.2.2.2.2.1,y25.2.2.2.2.2.1,y25.2.2.2.2.2.2.1,y25.2.2.2.2.2.2.2.1,y25.2.2.2.2.2.2.2.2.1,r24.2,y25.2.2.2.2.2.2.2.2.2.2)).set n26 (y27.1,y27.2.1,y27.2.2.1,y27.2.2.2.1,y27.2.2.2.2.1,y27.2.2.2.2.2.1,y27.2.2.2.2.2.2.1,y27.2.2.2.2.2.2.2.1,y27.2.2.2.2.2.2.2.2.1,y27.2.2.2.2.2.2.2.2.2.1,r24.1,y27.2.2.2.2.2.2.2.2.2.2.2)).set n28 (y29.1,y29.2.1,y29.2.2.1,y29.2.2.2.1,y29.2.2.2.2.1,y29.2.2.2.2.2.1,y29.2.2.2.2.2.2.1,y29.2.2.2.2.2.2.2.1,y29.2.2.2.2.2.2.2.2.1,y29.2.2.2.2.2.2.2.2.2.1,y29.2.2.2.2.2.2.2.2.2.2.1,IntKind.wrap .i64 (r24.1+(1:Int)),y29.2.2.2.2.2.2.2.2.2.2.2.2)).length x0.2.2 fun n30=>
   Option.bind ((((((((((((x0.1.set n2 (x0.2.1,y3.2)).set n4 (y5.1,IntKind.wrap .i64 (x0.2.1+(1:Int)),y5.2.2)).set n6 (y7.1,y7.2.1,IntKind.wrap .i64 ((IntKind.wrap .i64 (x0.2.1+(1:Int)))+(1:Int)),y7.2.2.2)).set n8 (y9.1,y9.2.1,y9.2.2.1,IntKind.wrap .i64 ((IntKind.wrap .i64 ((IntKind.wrap .i64 (x0.2.1+(1:Int)))+(1:Int)))+(1:Int)),y9.2.2.2.2)).set n10 (y11.1,y11.2.1,y11.2.2.1,y11.2.2.2.1,IntKind.wrap .i64 ((IntKind.wrap .i64 ((IntKind.wrap .i64 ((IntKind.wrap .i64 (x0.2.1+(1:Int)))+(1:Int)))+(1:Int)))+(1:Int)),y11.2.2.2.2.2)).set n12 (y13.1,y13.2.1,y13.2.2.1,y13.2.2.2.1,y13.2.2.2.2.1,IntKind.wrap .i64 ((IntKind.wrap .i64 ((IntKind.wrap .i64 ((IntKind.wrap .i64 ((IntKind.wrap .i64 (x0.2.1+(1:Int)))+(1:Int)))+(1:Int)))+(1:Int)))+(1:Int)),y13.2.2.2.2.2.2)).set n14 (y15.1,y15.2.1,y15.2.2.1,y15.2.2.2.1,y15.2.2.2.2.1,y15.2.2.2.2.2.1,IntKind.wrap .i64 ((IntKind.wrap .i64 ((IntKind.wrap .i64 ((IntKind.wrap .i64 ((IntKind.wrap .i64 ((IntKind.wrap .i64 (x0.2.1+(1:Int)))+(1:Int)))+(1:Int)))+(1:Int)))+(1:Int)))+(1:Int)),y15.2.2.2.2.2.2.2)).set n16 (y17.1,y17.2.1,y17.2.2.1,y17.2.2.2.1,y17.2.2.2.2.1,y17.2.2.2.2.2.1,y17.2.2.2.2.2.2.1,decide ((Int.tmod (IntKind.wrap .i64 ((IntKind.wrap .i64 ((IntKind.wrap .i64 ((IntKind.wrap .i64 ((IntKind.wrap .i64 ((IntKind.wrap .i64 ((IntKind.wrap .i64 (x0.2.1+(1:Int)))+(1:Int)))+(1:Int)))+(1:Int)))+(1:Int)))+(1:Int)))+(1:Int))) (3:Int))=(0:Int)),y17.2.2.2.2.2.2.2.2)).set n18 (y21.1,y21.2.1,y21.2.2.1,y21.2.2.2.1,y21.2.2.2.2.1,y21.2.2.2.2.2.1,y21.2.2.2.2.2.2.1,y21.2.2.2.2.2.2.2.1,r20.2,y21.2.2.2.2.2.2.2.2.2)).set n22 (y25.1,y25.2.1,y25.2.2.1,y25.2.2.2.1,y25.2.2.2.2.1,y25.2.2.2.2.2.1,y25.2.2.2.2.2.2.1,y25.2.2.2.2.2.2.2.1,y25.2.2.2.2.2.2.2.2.1,r24.2,y25.2.2.2.2.2.2.2.2.2.2)).set n26 (y27.1,y27.2.1,y27.2.2.1,y27.2.2.2.1,y27.2.2.2.2.1,y27.2.2.2.2.2.1,y27.2.2.2.2.2.2.1,y27.2.2.2.2.2.2.2.1,y27.2.2.2.2.2.2.2.2.1,y27.2.2.2.2.2.2.2.2.2.1,r24.1,y27.2.2.2.2.2.2.2.2.2.2.2)).set n28 (y29.1,y29.2.1,y29.2.2.1,y29.2.2.2.1,y29.2.2.2.2.1,y29.2.2.2.2.2.1,y29.2.2.2.2.2.2.1,y29.2.2.2.2.2.2.2.1,y29.2.2.2.2.2.2.2.2.1,y29.2.2.2.2.2.2.2.2.2.1,y29.2.2.2.2.2.2.2.2.2.2.1,IntKind.wrap .i64 (r24.1+(1:Int)),y29.2.2.2.2.2.2.2.2.2.2.2.2))[n30]? fun y31=>
   Option.bind (g_lmarkEdgeS (y31.2.2.2.2.2.2.2.2.2.2.2.2.1,IntKind.wrap .i64 ((IntKind.wrap .i64 (r24.1+(1:Int)))+(1:Int)))) fun r32=>
   Option.bind ((((((((((((x0.1.set n2 (x0.2.1,y3.2)).set n4 (y5.1,IntKind.wrap .i64 (x0.2.1+(1:Int)),y5.2.2)).set n6 (y7.1,y7.2.1,IntKind.wrap .i64 ((IntKind.wrap .i64 (x0.2.1+(1:Int)))+(1:Int)),y7.2.2.2)).set n8 (y9.1,y9.2.1,y9.2.2.1,IntKind.wrap .i64 ((IntKind.wrap .i64 ((IntKind.wrap .i64 (x0.2.1+(1:Int)))+(1:Int)))+(1:Int)),y9.2.2.2.2)).set n10 (y11.1,y11.2.1,y11.2.2.1,y11.2.2.2.1,IntKind.wrap .i64 ((IntKind.wrap .i64 ((IntKind.wrap .i64 ((IntKind.wrap .i64 (x0.2.1+(1:Int)))+(1:Int)))+(1:Int)))+(1:Int)),y11.2.2.2.2.2)).set n12 (y13.1,y13.2.1,y13.2.2.1,y13.2.2.2.1,y13.2.2.2.2.1,IntKind.wrap .i64 ((IntKind.wrap .i64 ((IntKind.wrap .i64 ((IntKind.wrap .i64 ((IntKind.wrap .i64 (x0.2.1+(1:Int)))+(1:Int)))+(1:Int)))+(1:Int)))+(1:Int)),y13.2.2.2.2.2.2)).set n14 (y15.1,y15.2.1,y15.2.2.1,y15.2.2.2.1,y15.2.2.2.2.1,y15.2.2.2.2.2.1,IntKind.wrap .i64 ((IntKind.wrap .i64 ((IntKind.wrap .i64 ((IntKind.wrap .i64 ((IntKind.wrap .i64 ((IntKind.wrap .i64 (x0.2.1+(1:Int)))+(1:Int)))+(1:Int)))+(1:Int)))+(1:Int)))+(1:Int)),y15.2.2.2.2.2.2.2)).set n16 (y17.1,y17.2.1,y17.2.2.1,y17.2.2.2.1,y17.2.2.2.2.1,y17.2.2.2.2.2.1,y17.2.2.2.2.2.2.1,decide ((Int.tmod (IntKind.wrap .i64 ((IntKind.wrap .i64 ((IntKind.wrap .i64 ((IntKind.wrap .i64 ((IntKind.wrap .i64 ((IntKind.wrap .i64 ((IntKind.wrap .i64 (x0.2.1+(1:Int)))+(1:Int)))+(1:Int)))+(1:Int)))+(1:Int)))+(1:Int)))+(1:Int))) (3:Int))=(0:Int)),y17.2.2.2.2.2.2.2.2)).set n18 (y21.1,y21.2.1,y21.2.2.1,y21.2.2.2.1,y21.2.2.2.2.1,y21.2.2.2.2.2.1,y21.2.2.2.2.2.2.1,y21.2.2.2.2.2.2.2.1,r20.2,y21.2.2.2.2.2.2.2.2.2)).set n22 (y25.1,y25.2.1,y25.2.2.1,y25.2.2.2.1,y25.2.2.2.2.1,y25.2.2.2.2.2.1,y25.2.2.2.2.2.2.1,y25.2.2.2.2.2.2.2.1,y25.2.2.2.2.2.2.2.2.1,r24.2,y25.2.2.2.2.2.2.2.2.2.2)).set n26 (y27.1,y27.2.1,y27.2.2.1,y27.2.2.2.1,y27.2.2.2.2.1,y27.2.2.2.2.2.1,y27.2.2.2.2.2.2.1,y27.2.2.2.2.2.2.2.1,y27.2.2.2.2.2.2.2.2.1,y27.2.2.2.2.2.2.2.2.2.1,r24.1,y27.2.2.2.2.2.2.2.2.2.2.2)).set n28 (y29.1,y29.2.1,y29.2.2.1,y29.2.2.2.1,y29.2.2.2.2.1,y29.2.2.2.2.2.1,y29.2.2.2.2.2.2.1,y29.2.2.2.2.2.2.2.1,y29.2.2.2.2.2.2.2.2.1,y29.2.2.2.2.2.2.2.2.2.1,y29.2.2.2.2.2.2.2.2.2.2.1,IntKind.wrap .i64 (r24.1+(1:Int)),y29.2.2.2.2.2.2.2.2.2.2.2.2))[n30]? fun y33=>
   bnd (((((((((((((x0.1.set n2 (x0.2.1,y3.2)).set n4 (y5.1,IntKind.wrap .i64 (x0.2.1+(1:Int)),y5.2.2)).set n6 (y7.1,y7.2.1,IntKind.wrap .i64 ((IntKind.wrap .i64 (x0.2.1+(1:Int)))+(1:Int)),y7.2.2.2)).set n8 (y9.1,y9.2.1,y9.2.2.1,IntKind.wrap .i64 ((IntKind.wrap .i64 ((IntKind.wrap .i64 (x0.2.1+(1:Int)))+(1:Int)))+(1:Int)),y9.2.2.2.2)).set n10 (y11.1,y11.2.1,y11.2.2.1,y11.2.2.2.1,IntKind.wrap .i64 ((IntKind.wrap .i64 ((IntKind.wrap .i64 ((IntKind.wrap .i64 (x0.2.1+(1:Int)))+(1:Int)))+(1:Int)))+(1:Int)),y11.2.2.2.2.2)).set n12 (y13.1,y13.2.1,y13.2.2.1,y13.2.2.2.1,y13.2.2.2.2.1,IntKind.wrap .i64 ((IntKind.wrap .i64 ((IntKind.wrap .i64 ((IntKind.wrap .i64 ((IntKind.wrap .i64 (x0.2.1+(1:Int)))+(1:Int)))+(1:Int)))+(1:Int)))+(1:Int)),y13.2.2.2.2.2.2)).set n14 (y15.1,y15.2.1,y15.2.2.1,y15.2.2.2.1,y15.2.2.2.2.1,y15.2.2.2.2.2.1,IntKind.wrap .i64 ((IntKind.wrap .i64 ((IntKind.wrap .i64 ((IntKind.wrap .i64 ((IntKind.wrap .i64 ((IntKind.wrap .i64 (x0.2.1+(1:Int)))+(1:Int)))+(1:Int)))+(1:Int)))+(1:Int)))+(1:Int)),y15.2.2.2.2.2.2.2)).set n16 (y17.1,y17.2.1,y17.2.2.1,y17.2.2.2.1,y17.2.2.2.2.1,y17.2.2.2.2.2.1,y17.2.2.2.2.2.2.1,decide ((Int.tmod (IntKind.wrap .i64 ((IntKind.wrap .i64 ((IntKind.wrap .i64 ((IntKind.wrap .i64 ((IntKind.wrap .i64 ((IntKind.wrap .i64 ((IntKind.wrap .i64 (x0.2.1+(1:Int)))+(1:Int)))+(1:Int)))+(1:Int)))+(1:Int)))+(1:Int)))+(1:Int))) (3:Int))=(0:Int)),y17.2.2.2.2.2.2.2.2)).set n18 (y21.1,y21.2.1,y21.2.2.1,y21.2.2.2.1,y21.2.2.2.2.1,y21.2.2.2.2.2.1,y21.2.2.2.2.2.2.1,y21.2.2.2.2.2.2.2.1,r20.2,y21.2.2.2.2.2.2.2.2.2)).set n22 (y25.1,y25.2.1,y25.2.2.1,y25.2.2.2.1,y25.2.2.2.2.1,y25.2.2.2.2.2.1,y25.2.2.2.2.2.2.1,y25.2.2.2.2.2.2.2.1,y25.2.2.2.2.2.2.2.2.1,r24.2,y25.2.2.2.2.2.2.2.2.2.2)).set n26 (y27.1,y27.2.1,y27.2.2.1,y27.2.2.2.1,y27.2.2.2.2.1,y27.2.2.2.2.2.1,y27.2.2.2.2.2.2.1,y27.2.2.2.2.2.2.2.1,y27.2.2.2.2.2.2.2.2.1,y27.2.2.2.2.2.2.2.2.2.1,r24.1,y27.2.2.2.2.2.2.2.2.2.2.2)).set n28 (y29.1,y29.2.1,y29.2.2.1,y29.2.2.2.1,y29.2.2.2.2.1,y29.2.2.2.2.2.1,y29.2.2.2.2.2.2.1,y29.2.2.2.2.2.2.2.1,y29.2.2.2.2.2.2.2.2.1,y29.2.2.2.2.2.2.2.2.2.1,y29.2.2.2.2.2.2.2.2.2.2.1,IntKind.wrap .i64 (r24.1+(1:Int)),y29.2.2.2.2.2.2.2.2.2.2.2.2)).set n30 (y33.1,y33.2.1,y33.2.2.1,y33.2.2.2.1,y33.2.2.2.2.1,y33.2.2.2.2.2.1,y33.2.2.2.2.2.2.1,y33.2.2.2.2.2.2.2.1,y33.2.2.2.2.2.2.2.2.1,y33.2.2.2.2.2.2.2.2.2.1,y33.2.2.2.2.2.2.2.2.2.2.1,y33.2.2.2.2.2.2.2.2.2.2.2.1,r32.2,y33.2.2.2.2.2.2.2.2.2.2.2.2.2)).length x0.2.2 fun n34=>
   Option.bind (((((((((((((x0.1.set n2 (x0.2.1,y3.2)).set n4 (y5.1,IntKind.wrap .i64 (x0.2.1+(1:Int)),y5.2.2)).set n6 (y7.1,y7.2.1,IntKind.wrap .i64 ((IntKind.wrap .i64 (x0.2.1+(1:Int)))+(1:Int)),y7.2.2.2)).set n8 (y9.1,y9.2.1,y9.2.2.1,IntKind.wrap .i64 ((IntKind.wrap .i64 ((IntKind.wrap .i64 (x0.2.1+(1:Int)))+(1:Int)))+(1:Int)),y9.2.2.2.2)).set n10 (y11.1,y11.2.1,y11.2.2.1,y11.2.2.2.1,IntKind.wrap .i64 ((IntKind.wrap .i64 ((IntKind.wrap .i64 ((IntKind.wrap .i64 (x0.2.1+(1:Int)))+(1:Int)))+(1:Int)))+(1:Int)),y11.2.2.2.2.2)).set n12 (y13.1,y13.2.1,y13.2.2.1,y13.2.2.2.1,y13.2.2.2.2.1,IntKind.wrap .i64 ((IntKind.wrap .i64 ((IntKind.wrap .i64 ((IntKind.wrap .i64 ((IntKind.wrap .i64 (x0.2.1+(1:Int)))+(1:Int)))+(1:Int)))+(1:Int)))+(1:Int)),y13.2.2.2.2.2.2)).set n14 (y15.1,y15.2.1,y15.2.2.1,y15.2.2.2.1,y15.2.2.2.2.1,y15.2.2.2.2.2.1,IntKind.wrap .i64 ((IntKind.wrap .i64 ((IntKind.wrap .i64 ((IntKind.wrap .i64 ((IntKind.wrap .i64 ((IntKind.wrap .i64 (x0.2.1+(1:Int)))+(1:Int)))+(1:Int)))+(1:Int)))+(1:Int)))+(1:Int)),y15.2.2.2.2.2.2.2)).set n16 (y17.1,y17.2.1,y17.2.2.1,y17.2.2.2.1,y17.2.2.2.2.1,y17.2.2.2.2.2.1,y17.2.2.2.2.2.2.1,decide ((Int.tmod (IntKind.wrap .i64 ((IntKind.wrap .i64 ((IntKind.wrap .i64 ((IntKind.wrap .i64 ((IntKind.wrap .i64 ((IntKind.wrap .i64 ((IntKind.wrap .i64 (x0.2.1+(1:Int)))+(1:Int)))+(1:Int)))+(1:Int)))+(1:Int)))+(1:Int)))+(1:Int))) (3:Int))=(0:Int)),y17.2.2.2.2.2.2.2.2)).set n18 (y21.1,y21.2.1,y21.2.2.1,y21.2.2.2.1,y21.2.2.2.2.1,y21.2.2.2.2.2.1,y21.2.2.2.2.2.2.1,y21.2.2.2.2.2.2.2.1,r20.2,y21.2.2.2.2.2.2.2.2.2)).set n22 (y25.1,y25.2.1,y25.2.2.1,y25.2.2.2.1,y25.2.2.2.2.1,y25.2.2.2.2.2.1,y25.2.2.2.2.2.2.1,y25.2.2.2.2.2.2.2.1,y25.2.2.2.2.2.2.2.2.1,r24.2,y25.2.2.2.2.2.2.2.2.2.2)).set n26 (y27.1,y27.2.1,y27.2.2.1,y27.2.2.2.1,y27.2.2.2.2.1,y27.2.2.2.2.2.1,y27.2.2.2.2.2.2.1,y27.2.2.2.2.2.2.2.1,y27.2.2.2.2.2.2.2.2.1,y27.2.2.2.2.2.2.2.2.2.1,r24.1,y27.2.2.2.2.2.2.2.2.2.2.2)).set n28 (y29.1,y29.2.1,y29.2.2.1,y29.2.2.2.1,y29.2.2.2.2.1,y29.2.2.2.2.2.1,y29.2.2.2.2.2.2.1,y29.2.2.2.2.2.2.2.1,y29.2.2.2.2.2.2.2.2.1,y29.2.2.2.2.2.2.2.2.2.1,y29.2.2.2.2.2.2.2.2.2.2.1,IntKind.wrap .i64 (r24.1+(1:Int)),y29.2.2.2.2.2.2.2.2.2.2.2.2)).set n30 (y33.1,y33.2.1,y33.2.2.1,y33.2.2.2.1,y33.2.2.2.2.1,y33.2.2.2.2.2.1,y33.2.2.2.2.2.2.1,y33.2.2.2.2.2.2.2.1,y33.2.2.2.2.2.2.2.2.1,y33.2.2.2.2.2.2.2.2.2.1,y33.2.2.2.2.2.2.2.2.2.2.1,y33.2.2.2.2.2.2.2.2.2.2.2.1,r32.2,y33.2.2.2.2.2.2.2.2.2.2.2.2.2))[n34]? fun y35=>
   self1 ((((((((((((((x0.1.set n2 (x0.2.1,y3.2)).set n4 (y5.1,IntKind.wrap .i64 (x0.2.1+(1:Int)),y5.2.2)).set n6 (y7.1,y7.2.1,IntKind.wrap .i64 ((IntKind.wrap .i64 (x0.2.1+(1:Int)))+(1:Int)),y7.2.2.2)).set n8 (y9.1,y9.2.1,y9.2.2.1,IntKind.wrap .i64 ((IntKind.wrap .i64 ((IntKind.wrap .i64 (x0.2.1+(1:Int)))+(1:Int)))+(1:Int)),y9.2.2.2.2)).set n10 (y11.1,y11.2.1,y11.2.2.1,y11.2.2.2.1,IntKind.wrap .i64 ((IntKind.wrap .i64 ((IntKind.wrap .i64 ((IntKind.wrap .i64 (x0.2.1+(1:Int)))+(1:Int)))+(1:Int)))+(1:Int)),y11.2.2.2.2.2)).set n12 (y13.1,y13.2.1,y13.2.2.1,y13.2.2.2.1,y13.2.2.2.2.1,IntKind.wrap .i64 ((IntKind.wrap .i64 ((IntKind.wrap .i64 ((IntKind.wrap .i64 ((IntKind.wrap .i64 (x0.2.1+(1:Int)))+(1:Int)))+(1:Int)))+(1:Int)))+(1:Int)),y13.2.2.2.2.2.2)).set n14 (y15.1,y15.2.1,y15.2.2.1,y15.2.2.2.1,y15.2.2.2.2.1,y15.2.2.2.2.2.1,IntKind.wrap .i64 ((IntKind.wrap .i64 ((IntKind.wrap .i64 ((IntKind.wrap .i64 ((IntKind.wrap .i64 ((IntKind.wrap .i64 (x0.2.1+(1:Int)))+(1:Int)))+(1:Int)))+(1:Int)))+(1:Int)))+(1:Int)),y15.2.2.2.2.2.2.2)).set n16 (y17.1,y17.2.1,y17.2.2.1,y17.2.2.2.1,y17.2.2.2.2.1,y17.2.2.2.2.2.1,y17.2.2.2.2.2.2.1,decide ((Int.tmod (IntKind.wrap .i64 ((IntKind.wrap .i64 ((IntKind.wrap .i64 ((IntKind.wrap .i64 ((IntKind.wrap .i64 ((IntKind.wrap .i64 ((IntKind.wrap .i64 (x0.2.1+(1:Int)))+(1:Int)))+(1:Int)))+(1:Int)))+(1:Int)))+(1:Int)))+(1:Int))) (3:Int))=(0:Int)),y17.2.2.2.2.2.2.2.2)).set n18 (y21.1,y21.2.1,y21.2.2.1,y21.2.2.2.1,y21.2.2.2.2.1,y21.2.2.2.2.2.1,y21.2.2.2.2.2.2.1,y21.2.2.2.2.2.2.2.1,r20.2,y21.2.2.2.2.2.2.2.2.2)).set n22 (y25.1,y25.2.1,y25.2.2.1,y25.2.2.2.1,y25.2.2.2.2.1,y25.2.2.2.2.2.1,y25.2.2.2.2.2.2.1,y25.2.2.2.2.2.2.2.1,y25.2.2.2.2.2.2.2.2.1,r24.2,y25.2.2.2.2.2.2.2.2.2.2)).set n26 (y27.1,y27.2.1,y27.2.2.1,y27.2.2.2.1,y27.2.2.2.2.1,y27.2.2.2.2.2.1,y27.2.2.2.2.2.2.1,y27.2.2.2.2.2.2.2.1,y27.2.2.2.2.2.2.2.2.1,y27.2.2.2.2.2.2.2.2.2.1,r24.1,y27.2.2.2.2.2.2.2.2.2.2.2)).set n28 (y29.1,y29.2.1,y29.2.2.1,y29.2.2.2.1,y29.2.2.2.2.1,y29.2.2.2.2.2.1,y29.2.2.2.2.2.2.1,y29.2.2.2.2.2.2.2.1,y29.2.2.2.2.2.2.2.2.1,y29.2.2.2.2.2.2.2.2.2.1,y29.2.2.2.2.2.2.2.2.2.2.1,IntKind.wrap .i64 (r24.1+(1:Int)),y29.2.2.2.2.2.2.2.2.2.2.2.2)).set n30 (y33.1,y33.2.1,y33.2.2.1,y33.2.2.2.1,y33.2.2.2.2.1,y33.2.2.2.2.2.1,y33.2.2.2.2.2.2.1,y33.2.2.2.2.2.2.2.1,y33.2.2.2.2.2.2.2.2.1,y33.2.2.2.2.2.2.2.2.2.1,y33.2.2.2.2.2.2.2.2.2.2.1,y33.2.2.2.2.2.2.2.2.2.2.2.1,r32.2,y33.2.2.2.2.2.2.2.2.2.2.2.2.2)).set n34 (y35.1,y35.2.1,y35.2.2.1,y35.2.2.2.1,y35.2.2.2.2.1,y35.2.2.2.2.2.1,y35.2.2.2.2.2.2.1,y35.2.2.2.2.2.2.2.1,y35.2.2.2.2.2.2.2.2.1,y35.2.2.2.2.2.2.2.2.2.1,y35.2.2.2.2.2.2.2.2.2.2.1,y35.2.2.2.2.2.2.2.2.2.2.2.1,y35.2.2.2.2.2.2.2.2.2.2.2.2.1,r32.1),IntKind.wrap .i64 (r32.1+(1:Int)),IntKind.wrap .i64 (x0.2.2+(1:Int)))
  else some (x0.1,x0.2.1)) (by
  intro self out i k y hi hl hy hya hk0 hk1
  have hi':i<out.length:=by omega
  have hz':=z_RecS_mem (List.mem_of_getElem? hya)
  obtain ⟨t8,c8,m8,d8,l8,u8⟩:=mh_EdgeS y.2.2.2.2.2.2.2.2.1 (k+1+1+1+1+1+1+1+1) (by omega) (by omega) (by omega)
  obtain ⟨t9,c9,m9,d9,l9,u9⟩:=mh_IntS y.2.2.2.2.2.2.2.2.2.1 (c8) (by omega) (by omega) (by omega)
  obtain ⟨t12,c12,m12,d12,l12,u12⟩:=mh_EdgeS y.2.2.2.2.2.2.2.2.2.2.2.2.1 (c9+1+1) (by omega) (by omega) (by omega)
  have hb:k+1+1+1+1+1+1+1+1<=c8/\c8<=c9/\c9+1+1<=c12/\c12<=4611686018427387000:=⟨by omega,by omega,by omega,by omega⟩
  have hlt:(i:Int)<(a.length:Int):=by omega
  have hc:k<=c12+1/\c12+1<=k+83886091:=by omega
  have h1:IntKind.wrap .i64 ((i:Int)+1)=((i+1:Nat):Int):=wr1 (by omega)
  have hk':0<=k:=by omega
  obtain ⟨w0,w1,w2,w3,w4,w5,w6,w7,w8,w9,w10,n8,n9,n12⟩:=hw_RecS k c8 c9 c12 hk' hb
  refine ⟨(k,k+1,k+1+1,k+1+1+1,k+1+1+1+1,k+1+1+1+1+1,k+1+1+1+1+1+1,decide (Int.tmod (k+1+1+1+1+1+1+1) 3=0),t8,t9,c9,c9+1,t12,c12),c12+1,⟨c8,c9,c12,⟨rfl,rfl,rfl,rfl,rfl,rfl,rfl,rfl,rfl,rfl,rfl⟩,⟨d8,d9,d12⟩,hb,rfl,hk'⟩,hc.1,hc.2,?_⟩
  clear hz' hk0 hk1 hb hc hk' hya hk hz
  simp only [hl,hlt,decide_true,cond_true,List.length_set,bnd_nat hi,hy,List.getElem?_set_self hi',Option.bind_some,List.set_set,w0,w1,w2,w3,w4,w5,w6,w7,w8,w9,w10,m8,m9,m12,show decide ((3:Int)=0)=false from rfl,cond_false,and_true,h1]) (by
  intro self out k hl
  simp [hl])
 obtain ⟨t,c,e1,e2,e3,e4,e5⟩:=L
 refine ⟨t,c,?_,e4,by omega⟩
 show f_lmarkRecS BIG _=_
 rw [e_lmarkRecS,e1]
 rfl
theorem law_lFnExactDecided (n k:Int) (rs:List Rc) (qr:B_RecS rs):g_lFnExactDecided (n,k,rs)=some (true,()):=by
 have hm:maxLen=9223372036854775807:=by decide
 show f_lFnExactDecided BIG _=_
 rw [e_lFnExactDecided]
 have hs:=sz_RecS rs 1048576 (by omega) (by omega) qr
 by_cases hz:((z_RecS rs:Nat):Int)<=1048576
 case neg=>
  rw [if_neg hz] at hs
  rw [hs];rfl
 rw [if_pos hz] at hs
 have hz':z_RecS rs<=1048576:=by omega
 have wi:=w_iHeadFrom n k rs (rcs_of hz')
 have ws:=w_sHeadFrom n k rs (rcs_of hz')
 obtain ⟨⟨x0,x1,x2,x3,x4,x5,x6,x7,x8,x9,x10,x11,x12,x13,x14⟩,b,e,hS⟩:=hfF_sz n k rs
 rw [e] at wi ws
 obtain ⟨s1,s2,⟨s3,s3'⟩,s4,s5,s6⟩:=hS
 simp only at s1 s2 s3 s3' s4 s5 s6
 have di:g_iDecided (n,k,rs)=some ((x14,b),()):=by
  show f_iDecided BIG _=_
  rw [e_iDecided,wi];rfl
 have ds:g_sDecided (n,k,rs)=some ((x14,b),()):=by
  show f_sDecided BIG _=_
  rw [e_sDecided,ws,Option.bind_some]
  simp only [fl]
  have h0:decide (0+x14.length<=4294967296)=true:=decide_eq_true (by omega)
  refine (congrArg (fun c=>bif c then some (([]++x14,b),()) else none) h0).trans ?_
  rfl
 obtain ⟨t',c',m',l',u'⟩:=mk_RecS rs 1 (by omega) (by omega) (by omega)
 obtain ⟨t,c,m,d,l,u⟩:=mh_SaidS x14 1 (by omega) (by omega) (by omega)
 simp only [hs,Option.bind_some,decide_eq_false (show ¬((1048576:Int)-((z_RecS rs:Nat):Int)<0) from by omega),cond_false,to_RecS rs hz',di,ds,eq_RecS rs (by omega),eq_SaidS x14 x14 (by omega),beq_self_eq_true,Bool.not_true,m',neg_f l',m,d,neg_f l,decide_true]
end Go.Fw
