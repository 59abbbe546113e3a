/- What the given functions come to. No conditions. -/
import Derived.Test.YtbdciplhpomakaaM0
set_option linter.unusedVariables false
set_option linter.unusedSimpArgs false
set_option linter.unusedSectionVars false
namespace Go.Fw
theorem w_sWebLabels (n:Nat) (L:List Led) (hL:L.length<=1048576):∃V,g_sWebLabels ((n:Int),L)=some (V,())/\(WOk n L->V=labs n (atE L 0))/\(¬WOk n L->V=[]):=by
 have hm:maxLen=9223372036854775807:=by decide
 obtain ⟨b,b1,b2⟩:=w_sWebOk n L hL
 rw [Int.toNat_natCast] at b2
 show ∃V,f_sWebLabels BIG _=_/\_
 rw [e_sWebLabels,b1,Option.bind_some]
 cases b with
 | false=>exact ⟨[],rfl,fun h=>(by have:=b2.2 ⟨by omega,h⟩;cases this),fun _=>rfl⟩
 | true=>
  have h:=(b2.1 rfl).2
  have hg:=h.gr
  obtain ⟨h1,h12⟩:=gr_n hg
  obtain ⟨hE,hEn,hEl⟩:=gr_at hg 0
  obtain ⟨r,b',r1,r2,r3⟩:=w_sForestAt (n:=n) L 0 h1 h12 hL hE
  obtain ⟨Fs,rfl,hF⟩:=r3 (r2.2 h.nc)
  have hll:=labs_len n (atE L 0)
  have hlab:=labs_ok (gr_ein hg 0)
  refine ⟨labs n (atE L 0),?_,fun _=>rfl,fun hn=>absurd h hn⟩
  simp only [Bool.not_true,cond_false]
  rw [r1,Option.bind_some]
  simp only
  refine loop_bind (x:=([],(0:Int))) (P:=fun o=>o=some (labs n (atE L 0),())) (fun (s:List Int × Int)=>∃i:Nat,s.2=i/\i<=n/\s.1=(labs n (atE L 0)).take i) (fun s=>n-s.2.toNat)
   (fun _ (V:List Int)=>V=labs n (atE L 0)) (by simp [BIG];omega) ⟨0,rfl,by omega,by simp⟩ (fun self s hx hs => ?_) (fun V hV=>by rw [hV])
  obtain ⟨s,j⟩:=s
  obtain ⟨i,k1,k2,k3⟩:=hx
  simp only at k1 k2 k3 hs ⊢
  subst k1 k3
  by_cases hi:i<n
  ·obtain ⟨j,p,p1,p2,p3⟩:=w_sTreeOf hE hF h12 h1 (i:Int) (by omega) (by omega)
   have hjl:=(List.getElem?_eq_some_iff.1 p1).1
   have hpm:=List.mem_of_getElem? p1
   have hG:=hF.gt p hpm
   obtain ⟨V,v1,_,_,v4,v5,v6⟩:=hF.verts h12 hpm
   have htl:=trs_len Fs
   rw [decide_eq_true (by omega),cond_true,p3,Option.bind_some,bnd_nat (by omega),trs_get p1,Option.bind_some,v1,Option.bind_some]
   have hV0:0<V.length:=by rw [v4];simp
   rw [bnd_ok (by omega) (by simp only;omega),show Int.toNat 0=0 from rfl]
   simp only
   rw [v5,Option.bind_some,decide_eq_true (by simp only [List.length_take,List.length_cons,List.length_nil];omega),cond_true,wr1 (by omega)]
   have hgi:=List.getElem?_eq_getElem (show i<(labs n (atE L 0)).length by omega)
   have hmin:=hlab.2 i _ hgi
   have hc:Con (atE L 0) i p.1:=((hG.con hE _).1 p2).symm
   have e1:(labs n (atE L 0))[i]=p.1:=by
    have l1:=hmin.2.2 p.1 (hG.rg _ (List.mem_cons_self ..)).1 hc
    have l2:=hF.mn p hpm _ ((hG.con hE _).2 (hc.symm.trans hmin.1))
    omega
   refine hs _ ⟨i+1,rfl,by omega,?_⟩ (by simp;omega)
   simp only
   rw [List.take_succ_eq_append_getElem (by omega),e1]
  ·rw [decide_eq_false (by omega),cond_false]
   have:i=n:=by omega
   subst this
   exact ⟨_,rfl,by rw [List.take_of_length_le (by omega)]⟩
theorem h_ShardOk (x0 x1:Int) (x2:List Led) (y:An) (h2:x2.length<=1048576) (h5:y.2.2.1.length<=1048576) (h6:y.2.2.2.length<=1048576) :
  ∃b,g_iShardOk (x0,x1,x2,y)=some (b,())/\g_sShardOk (x0,x1,x2,y)=some (b,())/\(b=true↔(1<=x0/\x0<=3)/\0<=x1/\WOk x1.toNat x2/\(blA y=true\/ansB x1 y=true/\y.2.2.2=labs x1.toNat (atE x2 0))):=by
 have hm:maxLen=9223372036854775807:=by decide
 show ∃b,f_iShardOk BIG _=_/\f_sShardOk BIG _=_/\_
 rw [e_iShardOk,e_sShardOk,h_iin',h_sl01In',Option.bind_some,Option.bind_some]
 by_cases h0:inB x0 1 3=true
 case neg=>
  rw [show inB x0 1 3=false by simpa using h0]
  exact ⟨false,rfl,rfl,⟨(fun h=>by cases h),fun h=>absurd (inB_t.2 h.1) h0⟩⟩
 rw [h0]
 obtain ⟨b,b1,b2⟩:=w_iWebOk x1 x2 h2
 obtain ⟨b',b1',b2'⟩:=w_sWebOk x1 x2 h2
 have hbb:b'=b:=by
  cases b<;>cases b'<;>simp_all
 subst hbb
 simp only [Bool.not_true,cond_false,b1,b1',Option.bind_some]
 cases b' with
 | false=>
  refine ⟨false,rfl,rfl,⟨(fun h=>by cases h),fun h => ?_⟩⟩
  have:=b2.2 ⟨h.2.1,h.2.2.1⟩
  cases this
 | true=>
  obtain ⟨n0,hw⟩:=b2.1 rfl
  simp only [Bool.not_true,cond_false]
  rw [h_inoAnswer,h_sl10Blank _ (by omega) (by omega),Option.bind_some,Option.bind_some]
  cases hb:blA y with
  | true=>exact ⟨true,rfl,rfl,⟨fun _=>⟨inB_t.1 h0,n0,hw,.inl rfl⟩,fun _=>rfl⟩⟩
  | false=>
   simp only [cond_false]
   rw [h_iAnswerOk _ _ h5 h6,h_sAnswerOk _ _ h5 h6,Option.bind_some,Option.bind_some]
   cases ha:ansB x1 y with
   | false=>exact ⟨false,rfl,rfl,⟨(fun h=>by cases h),fun h=>by
     rcases h.2.2.2 with h|⟨h,_⟩<;>cases h⟩⟩
   | true=>
    obtain ⟨m,rfl⟩:∃m:Nat,x1=(m:Int):=⟨x1.toNat,by omega⟩
    rw [Int.toNat_natCast] at hw ⊢
    obtain ⟨V,v1,v2,_⟩:=w_iWebLabels m x2 h2
    obtain ⟨V',v1',v2',_⟩:=w_sWebLabels m x2 h2
    rw [v2 hw] at v1
    rw [v2' hw] at v1'
    simp only [cond_true]
    rw [v1,v1',Option.bind_some,Option.bind_some,w_isameInts _ _ (by omega),h_sl05SameInts _ _ (by omega),Option.bind_some,Option.bind_some]
    refine ⟨_,rfl,rfl,?_⟩
    rw [decide_eq_true_eq]
    exact ⟨fun h=>⟨inB_t.1 h0,n0,hw,.inr ⟨by trivial,h⟩⟩,fun h=>by
     rcases h.2.2.2 with h|⟨_,h⟩
     ·cases h
     ·exact h⟩
theorem h_sl09Order (c:Cur) (n:Int) (hc:curOk c) (hn:2<=n) (hn':n<=12):∃o c',g_sl09Order (c,n)=some (o,c')/\curOk c'/\o.2.2.1.length<=5:=by
 have hm:maxLen=9223372036854775807:=by decide
 show ∃o c',f_sl09Order BIG _=_/\_
 rw [e_sl09Order]
 obtain ⟨r0,c0,k0,o0,a0,b0,_⟩:=h_sl01Below c 9 hc (by omega)
 have b0:=b0 (by omega)
 obtain ⟨r1,c1,k1,o1⟩:=h_sl01PickInt c0 [1,1,1,2,2,3,4] o0 (by simp) (by simp)
 rw [k0,Option.bind_some,k1,Option.bind_some]
 simp only
 by_cases h3:r1=3
 ·obtain ⟨r2,c2,k2,o2,_⟩:=h_sl01Below c1 n o1 (by omega)
  rw [decide_eq_true h3,cond_true,k2,Option.bind_some,Option.bind_some]
  exact ⟨_,_,rfl,o2,by simp⟩
 ·rw [decide_eq_false h3,cond_false]
  by_cases h4:r1=4
  ·rw [decide_eq_true h4,cond_true]
   refine loop_bind (P:=fun z=>∃(o:Or') (c':Cur),z=some (o,c')/\curOk c'/\o.2.2.1.length<=5)
    (fun (s:Cur × Or' × Int)=>∃i:Nat,s.2.2=(i:Int)/\i<=5/\curOk s.1/\s.2.1.2.2.1.length<=i) (fun s=>5-s.2.2.toNat) (fun _ (b:Cur × Or')=>curOk b.1/\b.2.2.2.1.length<=5) (by simp [BIG]) ⟨0,rfl,by omega,o1,by simp⟩ (fun self s hx hs => ?_) (fun b hb=>⟨_,_,rfl,hb⟩)
   obtain ⟨cu,⟨num,op,es,v⟩,j⟩:=s
   obtain ⟨i,h1,h2,h5,h6⟩:=hx
   simp only at h1 h2 h5 h6 hs ⊢
   subst h1
   obtain ⟨r5,c5,k5,o5,a5,b5,_⟩:=h_sl01Below cu 4 h5 (by omega)
   have b5:=b5 (by omega)
   rw [k5,Option.bind_some]
   simp only
   rw [wr (n:=1+r5) (by omega) (by omega)]
   by_cases hi:(i:Int)<1+r5
   ·obtain ⟨e,c6,k6,o6,hed⟩:=h_sl05Edge c5 n o5 hn hn'
    rw [decide_eq_true hi,cond_true,k6,Option.bind_some,h_sl05Has es e (by omega),Option.bind_some]
    by_cases hin:e∈es
    ·simp only [decide_eq_true hin,Bool.not_true,cond_false,Option.bind_some]
     rw [wr1 (by omega)]
     exact hs _ ⟨i+1,rfl,by omega,o6,by simp only;omega⟩ (by simp;omega)
    ·simp only [decide_eq_false hin,Bool.not_false,cond_true]
     rw [h_sl05Put es e (by omega),Option.bind_some,Option.bind_some]
     simp only
     rw [wr1 (by omega)]
     have:=ins_len es e
     exact hs _ ⟨i+1,rfl,by omega,o6,by simp only;omega⟩ (by simp;omega)
   ·rw [decide_eq_false hi,cond_false]
    exact ⟨_,rfl,o5,by simp only;omega⟩
  ·obtain ⟨e,c2,k2,o2,_⟩:=h_sl05Edge c1 n o1 hn hn'
   rw [decide_eq_false h4,cond_false,k2,Option.bind_some,Option.bind_some]
   exact ⟨_,_,rfl,o2,by simp⟩
def lkw (L:List Led) (p:Led->Nat) (rz hz:Led->Led):List Led × Option (Nat × Led):=
 if h:L.findIdx (fun y=>decide (p y=2))<L.length then
  ((L.take (L.findIdx fun y=>decide (p y=2))).map (fun y=>if p y=1 then rz y else y)++hz L[L.findIdx fun y=>decide (p y=2)]::L.drop (L.findIdx (fun y=>decide (p y=2))+1),some (L.findIdx (fun y=>decide (p y=2)),hz L[L.findIdx fun y=>decide (p y=2)]))
 else (L.map fun y=>if p y=1 then rz y else y,none)
theorem set_mid {α:Type} (a:List α) (x y:α) (b:List α):(a++x::b).set a.length y=a++y::b:=by
 rw [List.set_append_right _ _ (Nat.le_refl _),Nat.sub_self];rfl
theorem bind_of {A B:Type} {o:Option A} {v:A} (h:o=some v) (f:A->Option B):Option.bind o f=f v:=by rw [h];rfl
theorem lkLoop {X B:Type} (L:List Led) (hl:L.length<=1048576) (p:Led->Nat) (rz hz:Led->Led) (mk:List Led->Nat->X) (ix:X->Nat) (hix:∀l i,ix (mk l i)=i) (fin:List Led->B) (hit:List Led->Nat->Led->B) {F:(X->Option B)->X->Option B}
  (hF:∀self (out:List Led) (i:Nat) y,out.length=L.length->L[i]?=some y->out[i]?=some y->F self (mk out i)=if p y=2 then some (hit (out.set i (hz y)) i (hz y)) else self (mk (out.set i (if p y=1 then rz y else y)) (i+1)))
  (hE:∀self (out:List Led),out.length=L.length->F self (mk out L.length)=some (fin out)) :
  loopT BIG F (mk L 0)=some (match (lkw L p rz hz).2 with|none=>fin (lkw L p rz hz).1|some (j,y)=>hit (lkw L p rz hz).1 j y):=by
 refine loop_eq (fun x=>∃i:Nat,i<=L.length/\x=mk ((L.take i).map (fun y=>if p y=1 then rz y else y)++L.drop i) i/\∀j y,j<i->L[j]?=some y->p y≠2) (fun x=>L.length-ix x) (fun _=>_) (fun self x ⟨i,h1,h2,h3⟩ hs => ?_) (n:=BIG) (x:=mk L 0) (by rw [hix];simp [BIG];omega) ⟨0,by omega,by simp,fun j y h=>by omega⟩
 subst h2
 have hlen:((L.take i).map (fun y=>if p y=1 then rz y else y)++L.drop i).length=L.length:=by
  simp only [List.length_append,List.length_map,List.length_take,List.length_drop];omega
 have htl:((L.take i).map (fun y=>if p y=1 then rz y else y)).length=i:=by
  simp only [List.length_map,List.length_take];omega
 by_cases hi:i<L.length
 ·have hy:=List.getElem?_eq_getElem hi
  have hd:L.drop i=L[i]::L.drop (i+1):=List.drop_eq_getElem_cons hi
  have ho:((L.take i).map (fun y=>if p y=1 then rz y else y)++L.drop i)[i]?=some L[i]:=by
   rw [List.getElem?_append_right (by omega),htl,Nat.sub_self,hd];rfl
  have hset:∀z,((L.take i).map (fun y=>if p y=1 then rz y else y)++L.drop i).set i z=(L.take i).map (fun y=>if p y=1 then rz y else y)++z::L.drop (i+1):=by
   intro z
   have:=set_mid ((L.take i).map (fun y=>if p y=1 then rz y else y)) L[i] z (L.drop (i+1))
   rw [htl] at this
   rw [hd];exact this
  rw [hF self _ i L[i] hlen hy ho]
  by_cases hp:p L[i]=2
  ·rw [if_pos hp,hset]
   have hfi:L.findIdx (fun y=>decide (p y=2))=i:=by
    rw [List.findIdx_eq hi]
    refine ⟨by simpa using hp,fun j hj => ?_⟩
    have:=h3 j L[j] hj (List.getElem?_eq_getElem (by omega))
    simpa using this
   unfold lkw
   rw [dif_pos (by rw [hfi];exact hi)]
   simp only [hfi]
  ·rw [if_neg hp]
   refine hs _ ⟨i+1,hi,?_,fun j y hj hjy => ?_⟩ (by rw [hix,hix];omega)
   ·rw [hset,List.take_succ_eq_append_getElem hi,List.map_append,List.append_assoc]
    rfl
   ·by_cases hji:j=i
    ·subst hji
     rw [hy] at hjy
     cases hjy
     exact hp
    ·exact h3 j y (by omega) hjy
 ·have hin:i=L.length:=by omega
  subst hin
  rw [hE self _ hlen]
  have hno:¬L.findIdx (fun y=>decide (p y=2))<L.length:=by
   intro hlt
   have h1:=List.findIdx_getElem (w:=hlt)
   have:=h3 _ _ hlt (List.getElem?_eq_getElem hlt)
   exact this (by simpa using h1)
  unfold lkw
  rw [dif_neg hno]
  simp
def upL (k:Int):Int:=if 4<k+1 then 4 else k+1
def rzL (k:Int) (x:Led):Led:=(x.1,x.2.1,upL k,x.2.2.2)
def hzL (x:Led):Led:=(x.1,x.2.1,x.2.2.1,true)
def p1L (s:Int->Bool) (k:Int) (x:Led):Nat:=if x.2.2.2=true/\x.2.2.1=k/\s x.1=true then 1 else 0
def p2L (s:Int->Bool) (k:Int) (x:Led):Nat:=if x.2.2.2=true\/x.2.2.1≠k\/(s x.1=false/\s x.2.1=false) then 0 else if s x.1=true/\s x.2.1=true then 1 else 2
def sch (n:Nat) (L:List Led) (e:Ed) (k:Int):List Led × Option (Nat × Led):=
 let c:=if cmp n L k e.2<cmp n L k e.1 then lbl n L k e.2 else lbl n L k e.1
 lkw ((lkw L (p1L (fun x=>decide (lbl n L k x=c)) k) (rzL k) hzL).1) (p2L (fun x=>decide (lbl n L k x=c)) k) (rzL k) hzL
theorem lkw_no {L:List Led} {p:Led->Nat} {rz hz:Led->Led} (h:∀y,p y≠2):lkw L p rz hz=(L.map fun y=>if p y=1 then rz y else y,none):=by
 unfold lkw
 rw [dif_neg]
 intro hlt
 have h1:=List.findIdx_getElem (w:=hlt)
 exact h _ (by simpa using h1)
theorem lkw_len (L:List Led) (p:Led->Nat) (rz hz:Led->Led):(lkw L p rz hz).1.length=L.length:=by
 unfold lkw
 split
 ·rename_i h
  simp only [List.length_append,List.length_map,List.length_take,List.length_cons,List.length_drop]
  omega
 ·simp
theorem p1_ne (s:Int->Bool) (k:Int):∀y,p1L s k y≠2:=fun y=>by unfold p1L;split<;>omega
theorem lkw_gE {L:List Led} {p:Led->Nat} {rz hz:Led->Led} (h1:∀y,((rz y).1,(rz y).2.1)=(y.1,y.2.1)) (h2:∀y,((hz y).1,(hz y).2.1)=(y.1,y.2.1)):gE (lkw L p rz hz).1=gE L:=by
 unfold lkw gE
 split
 ·rename_i h
  have:L=L.take (L.findIdx fun y=>decide (p y=2))++L[L.findIdx fun y=>decide (p y=2)]::L.drop (L.findIdx (fun y=>decide (p y=2))+1):=by
   conv=>lhs;rw [<-List.take_append_drop (L.findIdx fun y=>decide (p y=2)) L,List.drop_eq_getElem_cons h]
  conv=>rhs;rw [this]
  simp only [List.map_append,List.map_cons,List.map_map,h2]
  congr 1
  apply List.map_congr_left
  intro y _
  simp only [Function.comp]
  split
  ·exact h1 y
  ·rfl
 ·rw [List.map_map]
  apply List.map_congr_left
  intro y _
  simp only [Function.comp]
  split
  ·exact h1 y
  ·rfl
theorem lkw_trE {L:List Led} {p:Led->Nat} {rz hz:Led->Led} (h1:∀y,((rz y).1,(rz y).2.1)=(y.1,y.2.1)) (h3:∀y,(rz y).2.2.2=y.2.2.2) (hn:(lkw L p rz hz).2=none):trE (lkw L p rz hz).1=trE L:=by
 unfold lkw at hn ⊢
 split at hn
 ·cases hn
 ·rename_i h
  rw [dif_neg h]
  unfold trE
  simp only [List.filter_map,List.map_map]
  have hc:((fun x:Led=>x.2.2.2) ∘ fun y=>if p y=1 then rz y else y)=fun x:Led=>x.2.2.2:=by
   funext y
   simp only [Function.comp]
   split
   ·exact h3 y
   ·rfl
  rw [hc]
  apply List.map_congr_left
  intro y _
  simp only [Function.comp]
  split
  ·exact h1 y
  ·rfl
theorem wrk {k:Int} (h0:0<=k) (h4:k<=4):IntKind.wrap .i64 (k+1)=k+1:=wr (by omega) (by omega)
section
variable {n:Nat} {L:List Led} (hg:grB n (gE L)=true) {e:Ed} (ha:0<=e.1/\e.1<n) (hb:0<=e.2/\e.2<n) {k:Int} (k0:0<=k) (k4:k<=4)
include hg ha hb k0 k4
theorem in_rg {x:Led} (hx:x∈L):(0<=x.1/\x.1<n)/\(0<=x.2.1/\x.2.1<n):=by
 have:=edB_in ((gr_e hg).1 (x.1,x.2.1) (List.mem_map.2 ⟨x,hx,rfl⟩))
 simp only at this
 omega
theorem w_look:g_iWeb_look (((n:Int),L),e,k)=some ((match (sch n L e k).2 with|none=>(((0:Int),(0:Int),false),((n:Int),(sch n L e k).1))|some (_,y)=>((y.1,y.2.1,true),((n:Int),(sch n L e k).1)))):=by
 have hm:maxLen=9223372036854775807:=by decide
 obtain ⟨h1,h12⟩:=gr_n hg
 obtain ⟨hgE,hgn,hL6⟩:=gr_e hg
 have hll:=labs_len n (atE L k)
 show f_iWeb_look BIG _=_
 rw [e_iWeb_look,h_ilabelsAt L k h12 (by omega) (gr_ein hg k),Option.bind_some]
 simp only
 have gA:∀{B:Type} {q:Nat->Option B} {v:Int},0<=v/\v<n->bnd (labs n (atE L k)).length v q=q v.toNat:=fun h=>bnd_ok h.1 (by omega)
 have gV:∀{v:Int},0<=v/\v<n->(labs n (atE L k))[v.toNat]?=some (lbl n L k v):=fun h=>getD_at (by omega)
 rw [gA ha,gV ha,Option.bind_some,gA hb,gV hb,Option.bind_some,h_isizes _ _ (by omega),Option.bind_some,gA ha,gV ha,Option.bind_some,h_isizes _ _ (by omega),Option.bind_some]
 have hsel:(bif decide (((labs n (atE L k)).count (lbl n L k e.2):Int)<((labs n (atE L k)).count (lbl n L k e.1):Int)) then bnd (labs n (atE L k)).length e.2 fun n9=>Option.bind (labs n (atE L k))[n9]? fun y10=>some y10 else some (lbl n L k e.1))=some (if cmp n L k e.2<cmp n L k e.1 then lbl n L k e.2 else lbl n L k e.1):=by
  show (bif decide ((cmp n L k e.2:Int)<(cmp n L k e.1:Int)) then _ else _)=_
  by_cases hc:cmp n L k e.2<cmp n L k e.1
  ·rw [decide_eq_true (by omega),cond_true,gA hb,gV hb,if_pos hc];rfl
  ·rw [decide_eq_false (by omega),cond_false,if_neg hc]
 rw [hsel,Option.bind_some]
 unfold sch
 simp only
 generalize (if cmp n L k e.2<cmp n L k e.1 then lbl n L k e.2 else lbl n L k e.1)=c
 rw [wrk k0 k4]
 have hup:(if (4:Int)<k+1 then (4:Int) else k+1)=upL k:=rfl
 simp only [hup]
 have e1:=lkLoop L (by omega) (p1L (fun x=>decide (lbl n L k x=c)) k) (rzL k) hzL (fun (l:List Led) (i:Nat)=>((((n:Int),l),(i:Int)):(Int × List Led) × Int)) (fun x=>x.2.toNat) (fun _ _=>by simp) (fun l=>((n:Int),l)) (fun l _ _=>((n:Int),l)) (F:=fun self13 x12=>
  bif decide (x12.2<(L.length:Int)) then
   Option.bind (bnd x12.1.2.length x12.2 fun n14=>
    Option.bind (Option.bind x12.1.2[n14]? fun y15=>
     bif y15.2.2.2 then
      Option.bind x12.1.2[n14]? fun y16=>
      bif decide (y16.2.2.1=k) then
       Option.bind x12.1.2[n14]? fun y17=>
       bnd (labs n (atE L k)).length y17.1 fun n18=>
       Option.bind (labs n (atE L k))[n18]? fun y19=>
       some (decide (y19=c))
      else some false
     else some false:Option (Bool)) fun x20=>
    bif x20 then
     Option.bind x12.1.2[n14]? fun y21=>
     some (x12.1.1,x12.1.2.set n14 (y21.1,y21.2.1,upL k,y21.2.2.2))
    else some x12.1:Option ((Int × List (Int × Int × Int × Bool)))) fun x22=>
   self13 (x22,IntKind.wrap .i64 (x12.2+(1:Int)))
  else some x12.1) (fun self out i y ho hy hoy => ?_) (fun self out ho=>by simp)
 ·rw [lkw_no (p1_ne _ _)] at e1
  simp only at e1
  refine (bind_of e1 _).trans ?_
  rw [lkw_no (p1_ne _ _)]
  simp only
  have hmr:∀y,y∈L.map (fun y=>if p1L (fun x=>decide (lbl n L k x=c)) k y=1 then rzL k y else y)->(0<=y.1/\y.1<n)/\(0<=y.2.1/\y.2.1<n):=by
   intro y hy
   obtain ⟨z,hz,rfl⟩:=List.mem_map.1 hy
   have:=in_rg hg ha hb k0 k4 hz
   split
   ·exact this
   ·exact this
  have hl1:(L.map (fun y=>if p1L (fun x=>decide (lbl n L k x=c)) k y=1 then rzL k y else y)).length<=1048576:=by rw [List.length_map];omega
  generalize L.map (fun y=>if p1L (fun x=>decide (lbl n L k x=c)) k y=1 then rzL k y else y)=M at hmr hl1
  have e2:=lkLoop M hl1 (p2L (fun x=>decide (lbl n L k x=c)) k) (rzL k) hzL (fun (l:List Led) (i:Nat)=>((((n:Int),l),((0:Int),(0:Int)),(i:Int)):(Int × List Led) × (Int × Int) × Int)) (fun x=>x.2.2.toNat) (fun _ _=>by simp) (fun l=>Sum.inl (((n:Int),l),((0:Int),(0:Int)))) (fun l _ y=>Sum.inr ((y.1,y.2.1),true,((n:Int),l))) (F:=fun self25 x24=>
  bif decide (x24.2.2<(M.length:Int)) then
   Option.bind (bnd x24.1.2.length x24.2.2 fun n26=>
    Option.bind (Option.bind x24.1.2[n26]? fun y27=>
     bif y27.2.2.2 then
      some true
     else Option.bind x24.1.2[n26]? fun y28=>
     bif !decide (y28.2.2.1=k) then
      some true
     else Option.bind x24.1.2[n26]? fun y29=>
     bnd (labs n (atE L k)).length y29.1 fun n30=>
     Option.bind (labs n (atE L k))[n30]? fun y31=>
     bif !decide (y31=c) then
      Option.bind x24.1.2[n26]? fun y32=>
      bnd (labs n (atE L k)).length y32.2.1 fun n33=>
      Option.bind (labs n (atE L k))[n33]? fun y34=>
      some (!decide (y34=c))
     else some false:Option (Bool)) fun x35=>
    bif x35 then
     some (Sum.inl (x24.1,x24.2.1))
    else Option.bind x24.1.2[n26]? fun y36=>
    bnd (labs n (atE L k)).length y36.1 fun n37=>
    Option.bind (labs n (atE L k))[n37]? fun y38=>
    Option.bind x24.1.2[n26]? fun y39=>
    bnd (labs n (atE L k)).length y39.2.1 fun n40=>
    Option.bind (labs n (atE L k))[n40]? fun y41=>
    bif !decide (y38=y41) then
     Option.bind x24.1.2[n26]? fun y42=>
     Option.bind (x24.1.2.set n26 (y42.1,y42.2.1,y42.2.2.1,true))[n26]? fun y43=>
     Option.bind (x24.1.2.set n26 (y42.1,y42.2.1,y42.2.2.1,true))[n26]? fun y44=>
     some (Sum.inr ((y43.1,y44.2.1),true,(x24.1.1,x24.1.2.set n26 (y42.1,y42.2.1,y42.2.2.1,true))))
    else Option.bind x24.1.2[n26]? fun y45=>
    some (Sum.inl ((x24.1.1,x24.1.2.set n26 (y45.1,y45.2.1,upL k,y45.2.2.2)),x24.2.1)):Option (((Int × List (Int × Int × Int × Bool)) × (Int × Int)) ⊕ ((Int × Int) × Bool × (Int × List (Int × Int × Int × Bool))))) fun y=>match y with
   | .inl x46=>
    self25 (x46.1,x46.2,IntKind.wrap .i64 (x24.2.2+(1:Int)))
   | .inr x46=>
    some (Sum.inr (x46.1,x46.2.1,x46.2.2))
  else some (Sum.inl (x24.1,x24.2.1))) (fun self out i y ho hy hoy => ?_) (fun self out ho=>by simp)
  ·refine (bind_of e2 _).trans ?_
   cases (lkw M (p2L (fun x=>decide (lbl n L k x=c)) k) (rzL k) hzL).2 with
   | none=>rfl
   | some r=>rfl
  ·have hi:=(List.getElem?_eq_some_iff.1 hy).1
   obtain ⟨r1,r2⟩:=hmr y (List.mem_of_getElem? hy)
   have hso:∀z,(out.set i z)[i]?=some z:=fun z=>List.getElem?_set_self (by omega)
   simp only [show ((i:Int)<(M.length:Int)) from by omega,decide_true,cond_true]
   rw [bnd_nat (by omega),wr1 (by omega)]
   simp only [hoy,Option.bind_some,gA r1,gV r1,gA r2,gV r2,hso]
   cases ht:y.2.2.2 with
   | true=>
    have hp:p2L (fun x=>decide (lbl n L k x=c)) k y=0:=by unfold p2L;rw [if_pos (.inl ht)]
    rw [hp,if_neg (by omega),if_neg (by omega),set_self hoy]
    rfl
   | false=>
    simp only [cond_false]
    by_cases hk:y.2.2.1=k
    ·simp only [decide_eq_true hk,Bool.not_true,cond_false]
     by_cases hA:lbl n L k y.1=c
     ·simp only [decide_eq_true hA,Bool.not_true,cond_false,Option.bind_some]
      by_cases hB:lbl n L k y.2.1=c
      ·have hp:p2L (fun x=>decide (lbl n L k x=c)) k y=1:=by
        unfold p2L
        rw [if_neg (by simp [ht,hk,hA]),if_pos (by simp [hA,hB])]
       rw [hp,if_neg (by omega),if_pos rfl,hA,hB]
       simp only [decide_true,Bool.not_true,cond_false,Option.bind_some]
       unfold rzL
       rw [ht]
      ·have hp:p2L (fun x=>decide (lbl n L k x=c)) k y=2:=by
        unfold p2L
        rw [if_neg (by simp [ht,hk,hA]),if_neg (by simp [hB])]
       rw [hp,if_pos rfl,hA]
       simp only [decide_eq_false (fun h=>hB (Eq.symm h):¬c=lbl n L k y.2.1),Bool.not_false,cond_true,Option.bind_some]
       rfl
     ·simp only [decide_eq_false hA,Bool.not_false,cond_true]
      by_cases hB:lbl n L k y.2.1=c
      ·have hp:p2L (fun x=>decide (lbl n L k x=c)) k y=2:=by
        unfold p2L
        rw [if_neg (by simp [ht,hk,hB]),if_neg (by simp [hA])]
       rw [hp,if_pos rfl,hB]
       simp only [decide_true,Bool.not_true,cond_false,Option.bind_some,decide_eq_false hA,Bool.not_false,cond_true]
       rfl
      ·have hp:p2L (fun x=>decide (lbl n L k x=c)) k y=0:=by
        unfold p2L
        rw [if_pos (.inr (.inr ⟨decide_eq_false hA,decide_eq_false hB⟩))]
       rw [hp,if_neg (by omega),if_neg (by omega),set_self hoy]
       simp only [decide_eq_false hB,Bool.not_false,cond_true,Option.bind_some]
    ·have hp:p2L (fun x=>decide (lbl n L k x=c)) k y=0:=by unfold p2L;rw [if_pos (.inr (.inl hk))]
     rw [hp,if_neg (by omega),if_neg (by omega),set_self hoy]
     simp only [decide_eq_false hk,Bool.not_false,cond_true,Option.bind_some]
 ·have hi:=(List.getElem?_eq_some_iff.1 hy).1
  obtain ⟨r1,r2⟩:=in_rg hg ha hb k0 k4 (List.mem_of_getElem? hy)
  simp only [show ((i:Int)<(L.length:Int)) from by omega,decide_true,cond_true]
  rw [bnd_nat (by omega),wr1 (by omega),if_neg (p1_ne _ _ _)]
  simp only [hoy,Option.bind_some,gA r1,gV r1]
  cases ht:y.2.2.2 with
  | false=>
   have hp:p1L (fun x=>decide (lbl n L k x=c)) k y=0:=by unfold p1L;rw [if_neg (by simp [ht])]
   rw [hp,if_neg (by omega),set_self hoy]
   rfl
  | true=>
   simp only [cond_true]
   by_cases hk:y.2.2.1=k
   ·simp only [decide_eq_true hk,cond_true]
    by_cases hA:lbl n L k y.1=c
    ·have hp:p1L (fun x=>decide (lbl n L k x=c)) k y=1:=by unfold p1L;rw [if_pos ⟨ht,hk,decide_eq_true hA⟩]
     rw [hp,if_pos rfl]
     simp only [decide_eq_true hA,cond_true,Option.bind_some]
     unfold rzL
     rw [ht]
    ·have hp:p1L (fun x=>decide (lbl n L k x=c)) k y=0:=by unfold p1L;rw [if_neg (by simp [hA])]
     rw [hp,if_neg (by omega),set_self hoy]
     simp only [decide_eq_false hA,cond_false,Option.bind_some]
   ·have hp:p1L (fun x=>decide (lbl n L k x=c)) k y=0:=by unfold p1L;rw [if_neg (by simp [hk])]
    rw [hp,if_neg (by omega),set_self hoy]
    simp only [decide_eq_false hk,cond_false,Option.bind_some]
end
section
variable {n:Nat} {L:List Led} (hg:grB n (gE L)=true) {e:Ed} (ha:0<=e.1/\e.1<n) (hb:0<=e.2/\e.2<n) {k:Int} (k0:0<=k) (k4:k<=4)
include hg ha hb k0 k4
theorem w_search (hN:NoCyc (atE L k)):g_sl08Search (((n:Int),L),e,k)=some (((sch n L e k).1,match (sch n L e k).2 with|none=>(-1:Int)|some (j,_)=>(j:Int)),()):=by
 have hm:maxLen=9223372036854775807:=by decide
 obtain ⟨h1,h12⟩:=gr_n hg
 obtain ⟨hgE,hgn,hL6⟩:=gr_e hg
 obtain ⟨hE,hEn,hEl⟩:=gr_at hg k
 obtain ⟨r,b,r1,r2,r3⟩:=w_sForestAt (n:=n) L k h1 h12 (by omega) hE
 obtain ⟨Fs,rfl,hF⟩:=r3 (r2.2 hN)
 obtain ⟨ja,pa,a1,a2,a3⟩:=w_sTreeOf hE hF h12 h1 e.1 ha.1 ha.2
 obtain ⟨jb,pb,b1,b2,b3⟩:=w_sTreeOf hE hF h12 h1 e.2 hb.1 hb.2
 have htl:=trs_len Fs
 have jal:=(List.getElem?_eq_some_iff.1 a1).1
 have jbl:=(List.getElem?_eq_some_iff.1 b1).1
 have hpa:=List.mem_of_getElem? a1
 have hpb:=List.mem_of_getElem? b1
 obtain ⟨Va,va1,_,va3,va4,_,va6⟩:=hF.verts h12 hpa
 obtain ⟨Vb,vb1,_,vb3,vb4,_,vb6⟩:=hF.verts h12 hpb
 have hGa:=hF.gt pa hpa
 have hGb:=hF.gt pb hpb
 have ra:=hGa.rg pa.1 (List.mem_cons_self ..)
 have rb:=hGb.rg pb.1 (List.mem_cons_self ..)
 have ca:=(hGa.con hE _).1 a2
 have cb:=(hGb.con hE _).1 b2
 have la:Va.length=cmp n L k e.1:=by rw [va4,comp_len hg hF hpa,cmp_same hg ra ha ca]
 have lb:Vb.length=cmp n L k e.2:=by rw [vb4,comp_len hg hF hpb,cmp_same hg rb hb cb]
 have ma:∀x:Int,0<=x/\x<n->(x∈Va↔lbl n L k x=lbl n L k e.1):=fun x hx=>by
  rw [va3,hGa.con hE,lbl_iff hg k hx ha]
  exact ⟨fun h=>h.symm.trans ca,fun h=>ca.trans h.symm⟩
 have mb:∀x:Int,0<=x/\x<n->(x∈Vb↔lbl n L k x=lbl n L k e.2):=fun x hx=>by
  rw [vb3,hGb.con hE,lbl_iff hg k hx hb]
  exact ⟨fun h=>h.symm.trans cb,fun h=>cb.trans h.symm⟩
 show f_sl08Search BIG _=_
 rw [e_sl08Search,decide_eq_true (by simp only;omega),cond_true,r1,Option.bind_some]
 simp only
 rw [a3,Option.bind_some,bnd_nat (by omega),trs_get a1,Option.bind_some,va1,Option.bind_some,b3,Option.bind_some,bnd_nat (by omega),trs_get b1,Option.bind_some,vb1,Option.bind_some]
 simp only
 have hsel:∃V,(bif decide ((Vb.length:Int)<(Va.length:Int)) then some Vb else some Va)=some V/\V.length<=12/\∀x:Int,0<=x/\x<n->(x∈V↔lbl n L k x=(if cmp n L k e.2<cmp n L k e.1 then lbl n L k e.2 else lbl n L k e.1)):=by
  by_cases hc:cmp n L k e.2<cmp n L k e.1
  ·rw [decide_eq_true (by omega),if_pos hc]
   exact ⟨Vb,rfl,vb6,mb⟩
  ·rw [decide_eq_false (by omega),if_neg hc]
   exact ⟨Va,rfl,va6,ma⟩
 obtain ⟨V,hV,hVl,hVm⟩:=hsel
 rw [hV,Option.bind_some,wrk k0 k4]
 have hup:(bif decide ((4:Int)<k+1) then some (4:Int) else some (k+1))=some (upL k):=by
  unfold upL
  by_cases h:4<k+1
  ·rw [decide_eq_true h,if_pos h];rfl
  ·rw [decide_eq_false h,if_neg h];rfl
 rw [hup,Option.bind_some,List.nil_append]
 unfold sch
 simp only
 generalize (if cmp n L k e.2<cmp n L k e.1 then lbl n L k e.2 else lbl n L k e.1)=c at hVm ⊢
 have hVd:∀x:Int,0<=x/\x<n->g_sl05In (V,x)=some (decide (lbl n L k x=c),()):=fun x hx=>by
  rw [h_sl05In V x (by omega)]
  by_cases h:lbl n L k x=c
  ·rw [decide_eq_true h,decide_eq_true ((hVm x hx).2 h)]
  ·rw [decide_eq_false h,decide_eq_false (fun h'=>h ((hVm x hx).1 h'))]
 have e1:=lkLoop L (by omega) (p1L (fun x=>decide (lbl n L k x=c)) k) (rzL k) hzL (fun (l:List Led) (i:Nat)=>((l,(i:Int)):List Led × Int)) (fun x=>x.2.toNat) (fun _ _=>by simp) (fun l=>l) (fun l _ _=>l) (F:=fun self12 x11=>
   bif decide (x11.2<(x11.1.length:Int)) then
    Option.bind (Option.bind (bnd x11.1.length x11.2 fun n13=>
     Option.bind x11.1[n13]? fun y14=>
     bif y14.2.2.2 then
      bnd x11.1.length x11.2 fun n15=>
      Option.bind x11.1[n15]? fun y16=>
      bif decide (y16.2.2.1=k) then
       bnd x11.1.length x11.2 fun n17=>
       Option.bind x11.1[n17]? fun y18=>
       Option.bind (g_sl05In (V,y18.1)) fun r19=>
       some r19.1
      else some false
     else some false:Option (Bool)) fun x20=>
     bif x20 then
      bnd x11.1.length x11.2 fun n21=>
      Option.bind x11.1[n21]? fun y22=>
      some (x11.1.set n21 (y22.1,y22.2.1,upL k,y22.2.2.2))
     else some x11.1:Option ((List (Int × Int × Int × Bool)))) fun x23=>
    self12 (x23,IntKind.wrap .i64 (x11.2+(1:Int)))
   else some x11.1) (fun self out i y ho hy hoy => ?_) (fun self out ho=>by simp [ho])
 ·rw [lkw_no (p1_ne _ _)] at e1
  simp only at e1
  have e1':(loopT BIG _ ((L,(0:Int)):List Led × Int))=_:=e1
  rw [e1',Option.bind_some,lkw_no (p1_ne _ _)]
  simp only
  have hmr:∀y,y∈L.map (fun y=>if p1L (fun x=>decide (lbl n L k x=c)) k y=1 then rzL k y else y)->(0<=y.1/\y.1<n)/\(0<=y.2.1/\y.2.1<n):=by
   intro y hy
   obtain ⟨z,hz,rfl⟩:=List.mem_map.1 hy
   have:=in_rg hg ha hb k0 k4 hz
   split
   ·exact this
   ·exact this
  have hml:(L.map (fun y=>if p1L (fun x=>decide (lbl n L k x=c)) k y=1 then rzL k y else y)).length=L.length:=by rw [List.length_map]
  have hor:∀(i:Nat) y,(L.map (fun y=>if p1L (fun x=>decide (lbl n L k x=c)) k y=1 then rzL k y else y))[i]?=some y->∃y0,L[i]?=some y0/\y0.2.2.2=y.2.2.2/\(y.2.2.2=false->y0.2.2.1=y.2.2.1):=by
   intro i y hy
   rw [List.getElem?_map,Option.map_eq_some_iff] at hy
   obtain ⟨y0,h0,rfl⟩:=hy
   refine ⟨y0,h0,?_,?_⟩
   ·split
    ·rfl
    ·rfl
   ·intro ht
    split at ht
    ·rename_i hp
     exfalso
     unfold p1L at hp
     split at hp
     ·rename_i hp'
      rw [show (rzL k y0).2.2.2=y0.2.2.2 from rfl,hp'.1] at ht
      cases ht
     ·omega
    ·rename_i hp
     rw [if_neg hp]
  generalize L.map (fun y=>if p1L (fun x=>decide (lbl n L k x=c)) k y=1 then rzL k y else y)=M at hmr hml hor
  have e2:=lkLoop M (by omega) (p2L (fun x=>decide (lbl n L k x=c)) k) (rzL k) hzL (fun (l:List Led) (i:Nat)=>((l,(i:Int)):List Led × Int)) (fun x=>x.2.toNat) (fun _ _=>by simp) (fun l=>Sum.inl l) (fun l j _=>Sum.inr (l,(j:Int))) (F:=fun self26 x25=>
   bif decide (x25.2<(x25.1.length:Int)) then
    Option.bind (bnd x25.1.length x25.2 fun n27=>
     Option.bind x25.1[n27]? fun y28=>
     Option.bind (g_sl05In (V,y28.1)) fun r29=>
     bnd x25.1.length x25.2 fun n30=>
     Option.bind x25.1[n30]? fun y31=>
     Option.bind (g_sl05In (V,y31.2.1)) fun r32=>
     Option.bind (bnd L.length x25.2 fun n33=>
      Option.bind L[n33]? fun y34=>
      bif y34.2.2.2 then
       some true
      else bnd L.length x25.2 fun n35=>
      Option.bind L[n35]? fun y36=>
      bif !decide (y36.2.2.1=k) then
       some true
      else bif !r29.1 then
       some !r32.1
      else some false:Option (Bool)) fun x37=>
     bif x37 then
      some (Sum.inl x25.1)
     else Option.bind (bif r29.1 then
      some r32.1
      else some false:Option (Bool)) fun x38=>
     bif x38 then
      bnd x25.1.length x25.2 fun n39=>
      Option.bind x25.1[n39]? fun y40=>
      some (Sum.inl (x25.1.set n39 (y40.1,y40.2.1,upL k,y40.2.2.2)))
     else bnd x25.1.length x25.2 fun n41=>
     Option.bind x25.1[n41]? fun y42=>
     some (Sum.inr (x25.1.set n41 (y42.1,y42.2.1,y42.2.2.1,true),x25.2)):Option (((List (Int × Int × Int × Bool))) ⊕ ((List (Int × Int × Int × Bool)) × Int))) fun y=>match y with
    | .inl x43=>
     self26 (x43,IntKind.wrap .i64 (x25.2+(1:Int)))
    | .inr x43=>
     some (Sum.inr (x43.1,x43.2))
   else some (Sum.inl x25.1)) (fun self out i y ho hy hoy => ?_) (fun self out ho=>by simp [ho])
  ·refine (bind_of e2 _).trans ?_
   cases (lkw M (p2L (fun x=>decide (lbl n L k x=c)) k) (rzL k) hzL).2 with
   | none=>rfl
   | some r=>rfl
  ·have hi:=(List.getElem?_eq_some_iff.1 hy).1
   obtain ⟨q1,q2⟩:=hmr y (List.mem_of_getElem? hy)
   obtain ⟨y0,o1,o2,o3⟩:=hor i y hy
   have bo:∀{B:Type} {q:Nat->Option B},bnd out.length (i:Int) q=q i:=fun {B q}=>bnd_nat (by omega)
   have bL:∀{B:Type} {q:Nat->Option B},bnd L.length (i:Int) q=q i:=fun {B q}=>bnd_nat (by omega)
   simp only [show ((i:Int)<(out.length:Int)) from by omega,decide_true,cond_true,bo,bL,hoy,o1,Option.bind_some,hVd y.1 q1,hVd y.2.1 q2,o2]
   rw [wr1 (by omega)]
   cases ht:y.2.2.2 with
   | true=>
    have hp:p2L (fun x=>decide (lbl n L k x=c)) k y=0:=by unfold p2L;rw [if_pos (.inl ht)]
    rw [hp,if_neg (by omega),if_neg (by omega),set_self hoy]
    rfl
   | false=>
    rw [o3 ht]
    simp only [cond_false]
    by_cases hk:y.2.2.1=k
    ·simp only [decide_eq_true hk,Bool.not_true,cond_false]
     by_cases hA:lbl n L k y.1=c
     ·by_cases hB:lbl n L k y.2.1=c
      ·have hp:p2L (fun x=>decide (lbl n L k x=c)) k y=1:=by
        unfold p2L
        rw [if_neg (by simp [ht,hk,hA]),if_pos (by simp [hA,hB])]
       rw [hp,if_neg (by omega),if_pos rfl]
       simp only [decide_eq_true hA,decide_eq_true hB,Bool.not_true,cond_false,cond_true,Option.bind_some]
       unfold rzL
       rw [ht]
      ·have hp:p2L (fun x=>decide (lbl n L k x=c)) k y=2:=by
        unfold p2L
        rw [if_neg (by simp [ht,hk,hA]),if_neg (by simp [hB])]
       rw [hp,if_pos rfl]
       simp only [decide_eq_true hA,decide_eq_false hB,Bool.not_true,cond_false,cond_true,Option.bind_some]
       rfl
     ·by_cases hB:lbl n L k y.2.1=c
      ·have hp:p2L (fun x=>decide (lbl n L k x=c)) k y=2:=by
        unfold p2L
        rw [if_neg (by simp [ht,hk,hB]),if_neg (by simp [hA])]
       rw [hp,if_pos rfl]
       simp only [decide_eq_false hA,decide_eq_true hB,Bool.not_false,Bool.not_true,cond_false,cond_true,Option.bind_some]
       rfl
      ·have hp:p2L (fun x=>decide (lbl n L k x=c)) k y=0:=by
        unfold p2L
        rw [if_pos (.inr (.inr ⟨decide_eq_false hA,decide_eq_false hB⟩))]
       rw [hp,if_neg (by omega),if_neg (by omega),set_self hoy]
       simp only [decide_eq_false hA,decide_eq_false hB,Bool.not_false,cond_true,Option.bind_some]
    ·have hp:p2L (fun x=>decide (lbl n L k x=c)) k y=0:=by unfold p2L;rw [if_pos (.inr (.inl hk))]
     rw [hp,if_neg (by omega),if_neg (by omega),set_self hoy]
     simp only [decide_eq_false hk,Bool.not_false,cond_true,Option.bind_some]
 ·have hi:=(List.getElem?_eq_some_iff.1 hy).1
  obtain ⟨q1,q2⟩:=in_rg hg ha hb k0 k4 (List.mem_of_getElem? hy)
  have bo:∀{B:Type} {q:Nat->Option B},bnd out.length (i:Int) q=q i:=fun {B q}=>bnd_nat (by omega)
  simp only [show ((i:Int)<(out.length:Int)) from by omega,decide_true,cond_true,bo,hoy,Option.bind_some,hVd y.1 q1]
  rw [wr1 (by omega),if_neg (p1_ne _ _ _)]
  cases ht:y.2.2.2 with
  | false=>
   have hp:p1L (fun x=>decide (lbl n L k x=c)) k y=0:=by unfold p1L;rw [if_neg (by simp [ht])]
   rw [hp,if_neg (by omega),set_self hoy]
   rfl
  | true=>
   simp only [cond_true]
   by_cases hk:y.2.2.1=k
   ·simp only [decide_eq_true hk,cond_true]
    by_cases hA:lbl n L k y.1=c
    ·have hp:p1L (fun x=>decide (lbl n L k x=c)) k y=1:=by unfold p1L;rw [if_pos ⟨ht,hk,decide_eq_true hA⟩]
     rw [hp,if_pos rfl]
     simp only [decide_eq_true hA,cond_true,Option.bind_some]
     unfold rzL
     rw [ht]
    ·have hp:p1L (fun x=>decide (lbl n L k x=c)) k y=0:=by unfold p1L;rw [if_neg (by simp [hA])]
     rw [hp,if_neg (by omega),set_self hoy]
     simp only [decide_eq_false hA,cond_false,Option.bind_some]
   ·have hp:p1L (fun x=>decide (lbl n L k x=c)) k y=0:=by unfold p1L;rw [if_neg (by simp [hk])]
    rw [hp,if_neg (by omega),set_self hoy]
    simp only [decide_eq_false hk,cond_false,Option.bind_some]
end
theorem h_sl08Put (L:List Led) (x:Led) (hL:L.length<=1048576):g_sl08Put (L,x)=some (L.filter (fun y=>lsB (y.1,y.2.1) (x.1,x.2.1))++[x]++L.filter (fun y=>lsB (x.1,x.2.1) (y.1,y.2.1)),()):=by
 have hm:maxLen=9223372036854775807:=by decide
 have hfl:∀(p:Led->Bool) (i:Nat),((L.take i).filter p).length<=i:=fun p i=>by
  have:=List.length_filter_le p (L.take i)
  rw [List.length_take] at this
  omega
 have hfs:∀(p:Led->Bool) (i:Nat) (hi:i<L.length),(L.take (i+1)).filter p=(L.take i).filter p++(if p L[i]=true then [L[i]] else []):=fun p i hi=>by
  rw [List.take_succ_eq_append_getElem hi,List.filter_append]
  congr 1
  by_cases h:p L[i]=true<;>simp [h]
 show f_sl08Put BIG _=_
 rw [e_sl08Put]
 refine loop_bind (x:=([],(0:Int))) (P:=fun o=>o=some (L.filter (fun y=>lsB (y.1,y.2.1) (x.1,x.2.1))++[x]++L.filter (fun y=>lsB (x.1,x.2.1) (y.1,y.2.1)),())) (fun (s:List Led × Int)=>∃i:Nat,s.2=(i:Int)/\i<=L.length/\s.1=(L.take i).filter (fun y=>lsB (y.1,y.2.1) (x.1,x.2.1))) (fun s=>L.length-s.2.toNat) (fun _ (b:List Led)=>b=L.filter (fun y=>lsB (y.1,y.2.1) (x.1,x.2.1))) (by simp [BIG];omega) ⟨0,rfl,by omega,rfl⟩ (fun self s hx hs => ?_) (fun b hb => ?_)
 ·obtain ⟨out,jj⟩:=s
  obtain ⟨i,h1,h2,h3⟩:=hx
  simp only at h1 h2 h3 hs ⊢
  subst h1 h3
  by_cases hi:i<L.length
  ·have hfi:=hfl (fun y=>lsB (y.1,y.2.1) (x.1,x.2.1)) i
   have bi:∀{B:Type} {q:Nat->Option B},bnd L.length (i:Int) q=q i:=fun {B q}=>bnd_nat hi
   simp only [show ((i:Int)<(L.length:Int)) from by omega,decide_true,cond_true,bi,List.getElem?_eq_getElem hi,Option.bind_some]
   have hc:(bif decide (L[i].1<x.1) then some true else bif decide (L[i].1=x.1) then some (decide (L[i].2.1<x.2.1)) else some false)=some (lsB (L[i].1,L[i].2.1) (x.1,x.2.1)):=by
    unfold lsB
    simp only
    cases decide (L[i].1<x.1)<;>cases decide (L[i].1=x.1)<;>rfl
   rw [hc,Option.bind_some,wr1 (by omega)]
   have hs':=hs ((L.take (i+1)).filter (fun y=>lsB (y.1,y.2.1) (x.1,x.2.1)),((i+1:Nat):Int)) ⟨i+1,rfl,hi,rfl⟩ (by simp;omega)
   rw [hfs _ i hi] at hs'
   refine Eq.mpr ?_ hs'
   cases hp:lsB (L[i].1,L[i].2.1) (x.1,x.2.1) with
   | true=>
    simp only [cond_true,if_true]
    rw [decide_eq_true (by simp only [List.length_cons,List.length_nil];omega),cond_true,Option.bind_some]
   | false=>
    simp only [cond_false,Bool.false_eq_true,if_false,List.append_nil,Option.bind_some]
  ·simp only [show ¬((i:Int)<(L.length:Int)) from by omega,decide_false,cond_false]
   have:i=L.length:=by omega
   subst this
   exact ⟨_,rfl,by rw [List.take_length]⟩
 ·subst hb
  have h0:=List.length_filter_le (fun y=>lsB (y.1,y.2.1) (x.1,x.2.1)) L
  rw [decide_eq_true (by simp only [List.length_cons,List.length_nil];omega),cond_true]
  refine loop_bind (x:=(L.filter (fun y=>lsB (y.1,y.2.1) (x.1,x.2.1))++[x],(0:Int))) (P:=fun o=>o=some (L.filter (fun y=>lsB (y.1,y.2.1) (x.1,x.2.1))++[x]++L.filter (fun y=>lsB (x.1,x.2.1) (y.1,y.2.1)),())) (fun (s:List Led × Int)=>∃i:Nat,s.2=(i:Int)/\i<=L.length/\s.1=L.filter (fun y=>lsB (y.1,y.2.1) (x.1,x.2.1))++[x]++(L.take i).filter (fun y=>lsB (x.1,x.2.1) (y.1,y.2.1))) (fun s=>L.length-s.2.toNat) (fun _ (b:List Led)=>b=L.filter (fun y=>lsB (y.1,y.2.1) (x.1,x.2.1))++[x]++L.filter (fun y=>lsB (x.1,x.2.1) (y.1,y.2.1))) (by simp [BIG];omega) ⟨0,rfl,by omega,by simp⟩ (fun self s hx hs => ?_) (fun b hb=>by rw [hb])
  obtain ⟨out,jj⟩:=s
  obtain ⟨i,h1,h2,h3⟩:=hx
  simp only at h1 h2 h3 hs ⊢
  subst h1 h3
  by_cases hi:i<L.length
  ·have hfi:=hfl (fun y=>lsB (x.1,x.2.1) (y.1,y.2.1)) i
   have bi:∀{B:Type} {q:Nat->Option B},bnd L.length (i:Int) q=q i:=fun {B q}=>bnd_nat hi
   simp only [show ((i:Int)<(L.length:Int)) from by omega,decide_true,cond_true,bi,List.getElem?_eq_getElem hi,Option.bind_some]
   have hc:(bif decide (x.1<L[i].1) then some true else bif decide (L[i].1=x.1) then some (decide (x.2.1<L[i].2.1)) else some false)=some (lsB (x.1,x.2.1) (L[i].1,L[i].2.1)):=by
    unfold lsB
    simp only
    have:decide (L[i].1=x.1)=decide (x.1=L[i].1):=by
     by_cases h:L[i].1=x.1
     ·rw [decide_eq_true h,decide_eq_true h.symm]
     ·rw [decide_eq_false h,decide_eq_false (fun h'=>h h'.symm)]
    rw [this]
    cases decide (x.1<L[i].1)<;>cases decide (x.1=L[i].1)<;>rfl
   rw [hc,Option.bind_some,wr1 (by omega)]
   have hs':=hs (L.filter (fun y=>lsB (y.1,y.2.1) (x.1,x.2.1))++[x]++(L.take (i+1)).filter (fun y=>lsB (x.1,x.2.1) (y.1,y.2.1)),((i+1:Nat):Int)) ⟨i+1,rfl,hi,rfl⟩ (by simp;omega)
   rw [hfs _ i hi,<-List.append_assoc] at hs'
   refine Eq.mpr ?_ hs'
   cases hp:lsB (x.1,x.2.1) (L[i].1,L[i].2.1) with
   | true=>
    simp only [cond_true,if_true]
    rw [decide_eq_true (by simp only [List.length_append,List.length_cons,List.length_nil];omega),cond_true,Option.bind_some]
   | false=>
    simp only [cond_false,Bool.false_eq_true,if_false,List.append_nil,Option.bind_some]
  ·simp only [show ¬((i:Int)<(L.length:Int)) from by omega,decide_false,cond_false]
   have:i=L.length:=by omega
   subst this
   exact ⟨_,rfl,by rw [List.take_length]⟩
theorem put_eq {L:List Led} {e:Ed} (hs:Srt (gE L)) (hne:e∉gE L) {k:Nat} (hk:k<=L.length) (h1:∀j (hj:j<L.length),j<k->lsB (L[j].1,L[j].2.1) e=true) (h2:∀hj:k<L.length,lsB (L[k].1,L[k].2.1) e=false) :
  L.filter (fun y=>lsB (y.1,y.2.1) e)=L.take k/\L.filter (fun y=>lsB e (y.1,y.2.1))=L.drop k:=by
 have hasym:∀a b:Ed,lsB a b=true->lsB b a=false:=by
  intro a b h
  cases hb:lsB b a with
  | false=>rfl
  | true=>
   exfalso
   simp only [lsB,Bool.or_eq_true,Bool.and_eq_true,decide_eq_true_eq] at h hb
   omega
 have hT:∀y,y∈L.take k->lsB (y.1,y.2.1) e=true:=by
  intro y hy
  obtain ⟨j,hj,rfl⟩:=List.mem_iff_getElem.1 hy
  rw [List.length_take] at hj
  rw [List.getElem_take]
  exact h1 j (by omega) (by omega)
 have hgl:(gE L).length=L.length:=by unfold gE;rw [List.length_map]
 have hge:∀j (hj:j<L.length),(gE L)[j]'(by omega)=(L[j].1,L[j].2.1):=fun j hj=>by unfold gE;rw [List.getElem_map]
 have hD:∀y,y∈L.drop k->lsB e (y.1,y.2.1)=true:=by
  intro y hy
  obtain ⟨j,hj,rfl⟩:=List.mem_iff_getElem.1 hy
  rw [List.length_drop] at hj
  rw [List.getElem_drop]
  have hkl:k<L.length:=by omega
  have hk2:lsB e (L[k].1,L[k].2.1)=true:=by
   cases hb:lsB e (L[k].1,L[k].2.1) with
   | true=>rfl
   | false=>
    have:=lsB_tri (h2 hkl) hb
    exact absurd (List.mem_map.2 ⟨L[k],List.getElem_mem hkl,this⟩) hne
  by_cases hj0:j=0
  ·subst hj0;exact hk2
  ·have:=List.pairwise_iff_getElem.1 hs k (k+j) (by omega) (by omega) (by omega)
   rw [hge k hkl,hge (k+j) (by omega)] at this
   exact lsB_trans hk2 this
 constructor
 ·conv=>lhs;rw [<-List.take_append_drop k L,List.filter_append]
  rw [List.filter_eq_self.2 hT,List.filter_eq_nil_iff.2 (fun y hy=>by rw [hasym _ _ (hD y hy)];simp),List.append_nil]
 ·conv=>lhs;rw [<-List.take_append_drop k L,List.filter_append]
  rw [List.filter_eq_self.2 hD,List.filter_eq_nil_iff.2 (fun y hy=>by rw [hasym _ _ (hT y hy)];simp),List.nil_append]
theorem w_WebAdd (n:Int) (L:List Led) (e:Ed) (hL:L.length<=1000000):∃r:Int × List Led × Bool,g_iWebAdd ((n,L),e)=some (r,())/\g_sWebAdd ((n,L),e)=some (r,())/\r.2.1.length<=67/\(¬(0<=n/\WOk n.toNat L/\edB n e=true/\e∉gE L)->r=(0,[],false))/\((0<=n/\WOk n.toNat L/\edB n e=true/\e∉gE L)->r=(n,L.filter (fun y=>lsB (y.1,y.2.1) e)++[(e.1,e.2,0,!decide (lbl n.toNat L 0 e.1=lbl n.toNat L 0 e.2))]++L.filter (fun y=>lsB e (y.1,y.2.1)),true)):=by
 have hm:maxLen=9223372036854775807:=by decide
 have hgl:(gE L).length=L.length:=by unfold gE;rw [List.length_map]
 have hGi:g_iGraphOf (n,L)=some ((n,gE L),()):=h_iGraphOf n L (by omega)
 have hGs:g_sGraphOf (n,L)=some ((n,gE L),()):=h_sGraphOf n L (by omega)
 obtain ⟨b,b1,b2⟩:=w_iWebOk n L (by omega)
 obtain ⟨b',b1',b2'⟩:=w_sWebOk n L (by omega)
 have hbb:b'=b:=by cases b<;>cases b'<;>simp_all
 subst hbb
 show ∃r:Int × List Led × Bool,f_iWebAdd BIG _=_/\f_sWebAdd BIG _=_/\_
 rw [e_iWebAdd,e_sWebAdd,hGi,hGs,Option.bind_some,Option.bind_some]
 simp only
 simp only [w_iAddEdge n (gE L) e (by omega),w_sAddEdge n (gE L) e (by omega),b1,b1',Option.bind_some]
 cases b' with
 | false=>exact ⟨_,rfl,rfl,by simp,fun _=>rfl,fun h=>absurd (b2.2 ⟨h.1,h.2.1⟩) (by simp)⟩
 | true=>
  obtain ⟨n0,hw⟩:=b2.1 rfl
  obtain ⟨m,rfl⟩:∃m:Nat,n=(m:Int):=⟨n.toNat,by omega⟩
  rw [Int.toNat_natCast] at hw
  have hg:=hw.gr
  obtain ⟨h1,h12⟩:=gr_n hg
  obtain ⟨hgE,hgn,hL6⟩:=gr_e hg
  have hsrt:Srt (gE L):=by
   have h:=hg
   unfold grB at h
   rw [Bool.and_eq_true] at h
   exact (eOk_srt h.2).2.1
  simp only [Bool.not_true,cond_false]
  unfold addR
  rw [hg,Bool.true_and]
  by_cases hc:(edB (m:Int) e && !decide (e∈gE L))=true
  case neg=>
   rw [if_neg hc]
   exact ⟨_,rfl,rfl,by simp,fun _=>rfl,fun h=>absurd (by rw [h.2.2.1,decide_eq_false h.2.2.2];rfl) hc⟩
  rw [if_pos hc]
  simp only [Bool.and_eq_true,Bool.not_eq_true',decide_eq_false_iff_not] at hc
  obtain ⟨he,hne⟩:=hc
  have her:=edB_in he
  simp only [Bool.not_true,Option.bind_some,cond_false]
  have hll:=labs_len m (atE L 0)
  rw [h_ilabelsAt L 0 h12 (by omega) (gr_ein hg 0),Option.bind_some]
  simp only
  -- the place
  have hkk:L.findIdx (fun y=>!lsB (y.1,y.2.1) e)<=L.length:=List.findIdx_le_length
  have hpl:∀j (hj:j<L.length),j<L.findIdx (fun y=>!lsB (y.1,y.2.1) e)->lsB (L[j].1,L[j].2.1) e=true:=by
   intro j hj hlt
   have:=List.not_of_lt_findIdx hlt
   simpa using this
  have hps:∀hj:L.findIdx (fun y=>!lsB (y.1,y.2.1) e)<L.length,lsB (L[L.findIdx (fun y=>!lsB (y.1,y.2.1) e)].1,L[L.findIdx (fun y=>!lsB (y.1,y.2.1) e)].2.1) e=false:=by
   intro hj
   have:=List.findIdx_getElem (w:=hj)
   simpa using this
  generalize L.findIdx (fun y=>!lsB (y.1,y.2.1) e)=kk at hkk hpl hps
  obtain ⟨q1,q2⟩:=put_eq hsrt hne hkk hpl hps
  have hloop:loopT BIG (fun self6 x5=>
   Option.bind (bif decide (x5<(L.length:Int)) then
    bnd L.length x5 fun n7=>
    Option.bind L[n7]? fun y8=>
    bnd L.length x5 fun n9=>
    Option.bind L[n9]? fun y10=>
    Option.bind (g_iahead ((y8.1,y10.2.1),e)) fun r11=>
    some r11.1
    else some false:Option (Bool)) fun x12=>
   bif x12 then
    self6 (IntKind.wrap .i64 (x5+(1:Int)))
   else some x5) (0:Int)=some ((kk:Nat):Int):=by
   refine loop_eq (fun (x:Int)=>∃i:Nat,x=(i:Int)/\i<=kk) (fun x=>kk-x.toNat) (fun _=>((kk:Nat):Int)) (fun self x ⟨i,h1,h2⟩ hs => ?_) (n:=BIG) (x:=0) (by simp [BIG];omega) ⟨0,rfl,by omega⟩
   subst h1
   by_cases hi:i<L.length
   ·have bi:∀{B:Type} {q:Nat->Option B},bnd L.length (i:Int) q=q i:=fun {B q}=>bnd_nat hi
    simp only [show ((i:Int)<(L.length:Int)) from by omega,decide_true,cond_true,bi,List.getElem?_eq_getElem hi,Option.bind_some,h_iahead]
    by_cases hik:i<kk
    ·rw [hpl i hi hik,cond_true,wr1 (by omega)]
     exact hs _ ⟨i+1,rfl,hik⟩ (by simp;omega)
    ·have:i=kk:=by omega
     subst this
     rw [hps hi,cond_false]
   ·have:i=kk:=by omega
    subst this
    simp only [show ¬((i:Int)<(L.length:Int)) from by omega,decide_false,cond_false,Option.bind_some]
  rw [hloop,Option.bind_some]
  have gA:∀{B:Type} {q:Nat->Option B} {v:Int},0<=v/\v<m->bnd (labs m (atE L 0)).length v q=q v.toNat:=fun h=>bnd_ok h.1 (by omega)
  have gV:∀{v:Int},0<=v/\v<m->(labs m (atE L 0))[v.toNat]?=some (lbl m L 0 v):=fun h=>getD_at (by omega)
  have hcp:g_icopyWeb ((m:Int),L.take kk)=some (((m:Int),L.take kk),()):=by
   show f_icopyWeb BIG _=_
   rw [e_icopyWeb,decide_eq_true (by simp only [List.length_take];omega)];rfl
  have hdr:List.take (L.length-kk) (L.drop kk)=L.drop kk:=List.take_of_length_le (by rw [List.length_drop];omega)
  rw [decide_eq_true (by omega),cond_true,Int.toNat_natCast,decide_eq_true (by omega),cond_true,Nat.sub_zero,List.drop_zero,hcp,Option.bind_some,gA ⟨her.1,her.2.1⟩,gV ⟨her.1,her.2.1⟩,Option.bind_some,gA ⟨her.2.2.1,her.2.2.2.1⟩,gV ⟨her.2.2.1,her.2.2.2.1⟩,Option.bind_some,hdr]
  simp only
  rw [decide_eq_true (by simp only [List.length_take,List.length_cons,List.length_nil];omega),cond_true,decide_eq_true (by omega),cond_true,decide_eq_true (by simp only [List.length_append,List.length_take,List.length_drop,List.length_cons,List.length_nil];omega),cond_true]
  have hyes:0<=(m:Int)/\WOk (m:Int).toNat L/\edB (m:Int) e=true/\e∉gE L:=⟨n0,by rw [Int.toNat_natCast];exact hw,he,hne⟩
  refine ⟨_,rfl,?_,?_,fun h=>absurd hyes h,fun _ => ?_⟩
  rotate_right
  ·rw [q1,q2,Int.toNat_natCast]
  ·-- the reference
   obtain ⟨hE,hEn,hEl⟩:=gr_at hg 0
   obtain ⟨r,b,r1,r2,r3⟩:=w_sForestAt (n:=m) L 0 h1 h12 (by omega) hE
   obtain ⟨Fs,rfl,hF⟩:=r3 (r2.2 hw.nc)
   obtain ⟨ja,pa,a1,a2,a3⟩:=w_sTreeOf hE hF h12 h1 e.1 her.1 her.2.1
   obtain ⟨jb,pb,c1,c2,c3⟩:=w_sTreeOf hE hF h12 h1 e.2 her.2.2.1 her.2.2.2.1
   have hiff:((ja:Int)=(jb:Int))↔lbl m L 0 e.1=lbl m L 0 e.2:=by
    rw [lbl_iff hg 0 ⟨her.1,her.2.1⟩ ⟨her.2.2.1,her.2.2.2.1⟩]
    constructor
    ·intro h
     have:ja=jb:=by omega
     subst this
     rw [a1,Option.some.injEq] at c1
     subst c1
     have hG:=hF.gt pa (List.mem_of_getElem? a1)
     exact ((hG.con hE _).1 a2).symm.trans ((hG.con hE _).1 c2)
    ·intro h
     have:=hF.idx hE a1 c1 a2 c2 h
     omega
   have hd:decide ((ja:Int)=(jb:Int))=decide (lbl m L 0 e.1=lbl m L 0 e.2):=by
    by_cases h:lbl m L 0 e.1=lbl m L 0 e.2
    ·rw [decide_eq_true h,decide_eq_true (hiff.2 h)]
    ·rw [decide_eq_false h,decide_eq_false (fun h'=>h (hiff.1 h'))]
   rw [r1,Option.bind_some]
   simp only
   rw [a3,Option.bind_some,c3,Option.bind_some,h_sl08Put _ _ (by omega),Option.bind_some]
   simp only
   rw [q1,q2,hd]
  ·simp only [List.length_append,List.length_take,List.length_drop,List.length_cons,List.length_nil];omega
theorem lkw_hit {L:List Led} {p:Led->Nat} {rz hz:Led->Led} {j:Nat} {y:Led} (h:(lkw L p rz hz).2=some (j,y)):(lkw L p rz hz).1[j]?=some y:=by
 unfold lkw at h ⊢
 split at h
 ·rename_i hlt
  simp only [Option.some.injEq,Prod.mk.injEq] at h
  obtain ⟨rfl,rfl⟩:=h
  rw [dif_pos hlt]
  simp only
  rw [List.getElem?_append_right (by rw [List.length_map,List.length_take];exact Nat.min_le_left ..),List.length_map,List.length_take,Nat.min_eq_left (Nat.le_of_lt hlt),Nat.sub_self]
  rfl
 ·cases h
def tkRw (n:Nat) (e:Ed):Nat->List Led->List Led × Option Led
 | 0,L=>(L,none)
 | k+1,L=>match (sch n L e (k:Int)).2 with
  | none=>tkRw n e k (sch n L e (k:Int)).1
  | some (_,y)=>((sch n L e (k:Int)).1,some y)
theorem sch_len (n:Nat) (L:List Led) (e:Ed) (k:Int):(sch n L e k).1.length=L.length:=by
 unfold sch
 simp only
 rw [lkw_len,lkw_len]
theorem tkRw_len (n:Nat) (e:Ed):∀(k:Nat) (L:List Led),(tkRw n e k L).1.length=L.length
 | 0,L=>rfl
 | k+1,L=>by
  unfold tkRw
  split
  ·rw [tkRw_len n e k,sch_len]
  ·exact sch_len ..
structure SOk (n:Nat) (L:List Led):Prop where
 gr:grB n (gE L)=true
 nc:NoCyc (trE L)
theorem at_tr (L:List Led) (k:Int):∀e,e∈atE L k->e∈trE L:=by
 intro e he
 unfold atE at he
 unfold trE
 rw [List.mem_map] at he ⊢
 obtain ⟨x,h1,h2⟩:=he
 simp only [List.mem_filter,Bool.and_eq_true] at h1
 exact ⟨x,List.mem_filter.2 ⟨h1.1,h1.2.1⟩,h2⟩
theorem sch_gE (n:Nat) (L:List Led) (e:Ed) (k:Int):gE (sch n L e k).1=gE L:=by
 unfold sch
 simp only
 rw [lkw_gE (rz:=rzL k) (hz:=hzL) (fun _=>rfl) (fun _=>rfl),lkw_gE (rz:=rzL k) (hz:=hzL) (fun _=>rfl) (fun _=>rfl)]
theorem sch_trE {n:Nat} {L:List Led} {e:Ed} {k:Int} (h:(sch n L e k).2=none):trE (sch n L e k).1=trE L:=by
 unfold sch at h ⊢
 simp only at h ⊢
 rw [lkw_trE (rz:=rzL k) (hz:=hzL) (fun _=>rfl) (fun _=>rfl) h,lkw_trE (rz:=rzL k) (hz:=hzL) (fun _=>rfl) (fun _=>rfl) (by rw [lkw_no (p1_ne _ _)])]
theorem SOk.sch {n:Nat} {L:List Led} (h:SOk n L) {e:Ed} {k:Int} (hn:(sch n L e k).2=none):SOk n (sch n L e k).1:=⟨by rw [sch_gE];exact h.gr,by rw [sch_trE hn];exact h.nc⟩
def rmS (e:Ed) (s:Led × List Led) (y:Led):Led × List Led:=if y.1=e.1/\y.2.1=e.2 then (y,s.2) else (s.1,s.2++[y])
theorem rm_spec (e:Ed):∀(L:List Led) (o:Led) (acc:List Led),(L.foldl (rmS e) (o,acc)).2=acc++L.filter (fun y=>decide ((y.1,y.2.1)≠e))/\((L.foldl (rmS e) (o,acc)).1=o\/((L.foldl (rmS e) (o,acc)).1∈L/\((L.foldl (rmS e) (o,acc)).1.1,(L.foldl (rmS e) (o,acc)).1.2.1)=e))/\((∃y,y∈L/\(y.1,y.2.1)=e)->(L.foldl (rmS e) (o,acc)).1∈L/\((L.foldl (rmS e) (o,acc)).1.1,(L.foldl (rmS e) (o,acc)).1.2.1)=e)
 | [],o,acc=>by simp
 | x::L,o,acc=>by
  rw [List.foldl_cons]
  by_cases hx:x.1=e.1/\x.2.1=e.2
  ·have hxe:(x.1,x.2.1)=e:=by rw [hx.1,hx.2]
   have hs:rmS e (o,acc) x=(x,acc):=by unfold rmS;rw [if_pos hx]
   rw [hs]
   obtain ⟨h1,h2,h3⟩:=rm_spec e L x acc
   have h4:(L.foldl (rmS e) (x,acc)).1∈x::L/\((L.foldl (rmS e) (x,acc)).1.1,(L.foldl (rmS e) (x,acc)).1.2.1)=e:=by
    rcases h2 with h2|h2
    ·rw [h2];exact ⟨List.mem_cons_self ..,hxe⟩
    ·exact ⟨List.mem_cons_of_mem _ h2.1,h2.2⟩
   exact ⟨by rw [h1,List.filter_cons_of_neg (by simp [hxe])],.inr h4,fun _=>h4⟩
  ·have hxe:(x.1,x.2.1)≠e:=fun h=>hx ⟨by rw [<-h],by rw [<-h]⟩
   have hs:rmS e (o,acc) x=(o,acc++[x]):=by unfold rmS;rw [if_neg hx]
   rw [hs]
   obtain ⟨h1,h2,h3⟩:=rm_spec e L o (acc++[x])
   refine ⟨?_,?_,fun h => ?_⟩
   ·rw [h1,List.filter_cons_of_pos (by simpa using hxe)]
    simp
   ·rcases h2 with h2|h2
    ·exact .inl h2
    ·exact .inr ⟨List.mem_cons_of_mem _ h2.1,h2.2⟩
   ·obtain ⟨y,hy,hye⟩:=h
    rw [List.mem_cons] at hy
    rcases hy with rfl|hy
    ·exact absurd hye hxe
    ·have:=h3 ⟨y,hy,hye⟩
     exact ⟨List.mem_cons_of_mem _ this.1,this.2⟩
theorem rm_len (e:Ed) (L:List Led) (i:Nat):((L.take i).foldl (rmS e) (((0:Int),(0:Int),(0:Int),false),[])).2.length<=i:=by
 rw [(rm_spec e (L.take i) _ []).1]
 have:=List.length_filter_le (fun y:Led=>decide ((y.1,y.2.1)≠e)) (L.take i)
 rw [List.length_take] at this
 rw [List.nil_append]
 omega
def lvR (n:Nat) (t:List Led × Option Led):((Int × List Led) × (Int × List Led) × (Int × Int)) ⊕ ((Int × List Led) × (Int × Int) × Bool × Bool):=
 match t.2 with
 | none=>.inl (((n:Int),t.1),((0:Int),[]),((0:Int),(0:Int)))
 | some y=>.inr (((n:Int),t.1),(y.1,y.2.1),true,true)
section
variable {n:Nat} {e:Ed} (ha:0<=e.1/\e.1<n) (hb:0<=e.2/\e.2<n)
include ha hb
theorem lv_i (k:Nat) (hk:k<=5) (L:List Led) (hS:SOk n L):loopT BIG (fun self12 x11=>
  Option.bind (bif decide ((0:Int)<=x11.2.2.2) then
   some true
   else some false:Option (Bool)) fun x13=>
  bif x13 then
   Option.bind (g_iWeb_look (x11.1,e,x11.2.2.2)) fun r14=>
   bif r14.1.2.2 then
    some (Sum.inr (r14.2,(r14.1.1,r14.1.2.1),true,true))
   else self12 (r14.2,x11.2.1,x11.2.2.1,IntKind.wrap .i64 (x11.2.2.2-(1:Int)))
  else some (Sum.inl (x11.1,x11.2.1,x11.2.2.1))) ((((n:Int),L),((0:Int),[]),((0:Int),(0:Int)),(k:Int)-1):(Int × List Led) × (Int × List Led) × (Int × Int) × Int)=some (lvR n (tkRw n e k L)):=by
 have hm:maxLen=9223372036854775807:=by decide
 refine Exists.elim (loop_rel (F:=fun self12 x11=>
  Option.bind (bif decide ((0:Int)<=x11.2.2.2) then
   some true
   else some false:Option (Bool)) fun x13=>
  bif x13 then
   Option.bind (g_iWeb_look (x11.1,e,x11.2.2.2)) fun r14=>
   bif r14.1.2.2 then
    some (Sum.inr (r14.2,(r14.1.1,r14.1.2.1),true,true))
   else self12 (r14.2,x11.2.1,x11.2.2.1,IntKind.wrap .i64 (x11.2.2.2-(1:Int)))
  else some (Sum.inl (x11.1,x11.2.1,x11.2.2.1))) (fun (x:(Int × List Led) × (Int × List Led) × (Int × Int) × Int)=>∃(k:Nat) (L:List Led),x=(((n:Int),L),((0:Int),[]),((0:Int),(0:Int)),(k:Int)-1)/\k<=5/\SOk n L) (fun x=>(x.2.2.2+1).toNat)
  (fun x b=>∀(k:Nat) (L:List Led),x=(((n:Int),L),((0:Int),[]),((0:Int),(0:Int)),(k:Int)-1)->b=lvR n (tkRw n e k L)) (fun self x hx hs => ?_) (n:=BIG) (x:=(((n:Int),L),((0:Int),[]),((0:Int),(0:Int)),(k:Int)-1)) (by simp [BIG];omega) ⟨k,L,rfl,hk,hS⟩) fun b hbb => ?_
 rotate_left
 ·rw [hbb.1,hbb.2 k L rfl]
 ·obtain ⟨k,L,rfl,hk,hS⟩:=hx
  simp only at hs ⊢
  have uniq:∀{k':Nat} {L':List Led} ,((((n:Int),L),((0:Int),[]),((0:Int),(0:Int)),(k:Int)-1):(Int × List Led) × (Int × List Led) × (Int × Int) × Int)=(((n:Int),L'),((0:Int),[]),((0:Int),(0:Int)),(k':Int)-1)->k'=k/\L'=L:=by
   intro k' L' h
   simp only [Prod.mk.injEq,true_and] at h
   exact ⟨by omega,h.1.symm⟩
  cases k with
  | zero=>
   rw [decide_eq_false (by omega),cond_false,Option.bind_some,cond_false]
   refine ⟨_,rfl,fun k' L' h => ?_⟩
   obtain ⟨rfl,rfl⟩:=uniq h
   rfl
  | succ k=>
   have hlev:((k+1:Nat):Int)-1=(k:Int):=by omega
   rw [hlev,decide_eq_true (by omega),cond_true,Option.bind_some,cond_true,w_look hS.gr ha hb (by omega) (by omega),Option.bind_some]
   cases hsc:(sch n L e (k:Int)).2 with
   | none=>
    simp only [cond_false]
    rw [wr (by omega) (by omega)]
    obtain ⟨b,g1,g2⟩:=hs (((n:Int),(sch n L e (k:Int)).1),((0:Int),[]),((0:Int),(0:Int)),(k:Int)-1) ⟨k,_,rfl,by omega,hS.sch hsc⟩ (by simp only;omega)
    refine ⟨b,g1,fun k' L' h => ?_⟩
    rw [<-hlev] at h
    obtain ⟨rfl,rfl⟩:=uniq h
    rw [g2 k _ rfl]
    show _=lvR n (match (sch n L' e (k:Int)).2 with|none=>_|some (_,y)=>_)
    rw [hsc]
   | some r=>
    obtain ⟨j,y⟩:=r
    simp only [cond_true]
    refine ⟨_,rfl,fun k' L' h => ?_⟩
    rw [<-hlev] at h
    obtain ⟨rfl,rfl⟩:=uniq h
    show _=lvR n (match (sch n L' e (k:Int)).2 with|none=>_|some (_,y)=>_)
    rw [hsc]
    rfl
theorem lv_s (k:Nat) (hk:k<=5) (L:List Led) (hS:SOk n L):loopT BIG (fun self18 x17=>
  bif decide ((0:Int)<=x17.2.2.2) then
   Option.bind (g_sl08Search (x17.1,e,x17.2.2.2)) fun r19=>
   bif decide ((0:Int)<=r19.1.2) then
    bnd r19.1.1.length r19.1.2 fun n20=>
    Option.bind r19.1.1[n20]? fun y21=>
    bnd r19.1.1.length r19.1.2 fun n22=>
    Option.bind r19.1.1[n22]? fun y23=>
    some (Sum.inr ((x17.1.1,r19.1.1),(y21.1,y23.2.1),true,true))
   else self18 ((x17.1.1,r19.1.1),x17.2.1,x17.2.2.1,IntKind.wrap .i64 (x17.2.2.2-(1:Int)))
  else some (Sum.inl (x17.1,x17.2.1,x17.2.2.1))) ((((n:Int),L),((0:Int),[]),((0:Int),(0:Int)),(k:Int)-1):(Int × List Led) × (Int × List Led) × (Int × Int) × Int)=some (lvR n (tkRw n e k L)):=by
 have hm:maxLen=9223372036854775807:=by decide
 refine Exists.elim (loop_rel (F:=fun self18 x17=>
  bif decide ((0:Int)<=x17.2.2.2) then
   Option.bind (g_sl08Search (x17.1,e,x17.2.2.2)) fun r19=>
   bif decide ((0:Int)<=r19.1.2) then
    bnd r19.1.1.length r19.1.2 fun n20=>
    Option.bind r19.1.1[n20]? fun y21=>
    bnd r19.1.1.length r19.1.2 fun n22=>
    Option.bind r19.1.1[n22]? fun y23=>
    some (Sum.inr ((x17.1.1,r19.1.1),(y21.1,y23.2.1),true,true))
   else self18 ((x17.1.1,r19.1.1),x17.2.1,x17.2.2.1,IntKind.wrap .i64 (x17.2.2.2-(1:Int)))
  else some (Sum.inl (x17.1,x17.2.1,x17.2.2.1))) (fun (x:(Int × List Led) × (Int × List Led) × (Int × Int) × Int)=>∃(k:Nat) (L:List Led),x=(((n:Int),L),((0:Int),[]),((0:Int),(0:Int)),(k:Int)-1)/\k<=5/\SOk n L) (fun x=>(x.2.2.2+1).toNat)
  (fun x b=>∀(k:Nat) (L:List Led),x=(((n:Int),L),((0:Int),[]),((0:Int),(0:Int)),(k:Int)-1)->b=lvR n (tkRw n e k L)) (fun self x hx hs => ?_) (n:=BIG) (x:=(((n:Int),L),((0:Int),[]),((0:Int),(0:Int)),(k:Int)-1)) (by simp [BIG];omega) ⟨k,L,rfl,hk,hS⟩) fun b hbb => ?_
 rotate_left
 ·rw [hbb.1,hbb.2 k L rfl]
 ·obtain ⟨k,L,rfl,hk,hS⟩:=hx
  simp only at hs ⊢
  have uniq:∀{k':Nat} {L':List Led} ,((((n:Int),L),((0:Int),[]),((0:Int),(0:Int)),(k:Int)-1):(Int × List Led) × (Int × List Led) × (Int × Int) × Int)=(((n:Int),L'),((0:Int),[]),((0:Int),(0:Int)),(k':Int)-1)->k'=k/\L'=L:=by
   intro k' L' h
   simp only [Prod.mk.injEq,true_and] at h
   exact ⟨by omega,h.1.symm⟩
  cases k with
  | zero=>
   rw [decide_eq_false (by omega),cond_false]
   refine ⟨_,rfl,fun k' L' h => ?_⟩
   obtain ⟨rfl,rfl⟩:=uniq h
   rfl
  | succ k=>
   have hlev:((k+1:Nat):Int)-1=(k:Int):=by omega
   rw [hlev,decide_eq_true (by omega),cond_true,w_search hS.gr ha hb (by omega) (by omega) (hS.nc.sub (at_tr L k)),Option.bind_some]
   cases hsc:(sch n L e (k:Int)).2 with
   | none=>
    simp only
    rw [decide_eq_false (by omega),cond_false,wr (by omega) (by omega)]
    obtain ⟨b,g1,g2⟩:=hs (((n:Int),(sch n L e (k:Int)).1),((0:Int),[]),((0:Int),(0:Int)),(k:Int)-1) ⟨k,_,rfl,by omega,hS.sch hsc⟩ (by simp only;omega)
    refine ⟨b,g1,fun k' L' h => ?_⟩
    rw [<-hlev] at h
    obtain ⟨rfl,rfl⟩:=uniq h
    rw [g2 k _ rfl]
    show _=lvR n (match (sch n L' e (k:Int)).2 with|none=>_|some (_,y)=>_)
    rw [hsc]
   | some r=>
    obtain ⟨j,y⟩:=r
    have hj:(sch n L e (k:Int)).1[j]?=some y:=lkw_hit hsc
    have hjl:=(List.getElem?_eq_some_iff.1 hj).1
    have bj:∀{B:Type} {q:Nat->Option B},bnd (sch n L e (k:Int)).1.length (j:Int) q=q j:=fun {B q}=>bnd_nat hjl
    simp only
    rw [decide_eq_true (by omega),cond_true]
    simp only [bj,hj,Option.bind_some]
    refine ⟨_,rfl,fun k' L' h => ?_⟩
    rw [<-hlev] at h
    obtain ⟨rfl,rfl⟩:=uniq h
    show _=lvR n (match (sch n L' e (k:Int)).2 with|none=>_|some (_,y)=>_)
    rw [hsc]
    rfl
end
theorem w_WebTake (n : Int) (L : List Led) (e : Ed) (hL : L.length ≤ 1000000) : ∃ r : Int × List Led × Int × Int × Bool × Bool, g_iWebTake ((n, L), e) = some (r, ()) ∧ g_sWebTake ((n, L), e) = some (r, ()) ∧ r.2.1.length ≤ 66 ∧ (¬ (0 ≤ n ∧ WOk n.toNat L ∧ e ∈ gE L) → r = (0, [], 0, 0, false, false)) ∧ ((0 ≤ n ∧ WOk n.toNat L ∧ e ∈ gE L) → ∃ old, old ∈ L ∧ (old.1, old.2.1) = e ∧ r.1 = n ∧ r.2.2.2.2.2 = true ∧ r.2.1 = if old.2.2.2 = true then (tkRw n.toNat e (old.2.2.1.toNat + 1) (L.filter fun y => decide ((y.1, y.2.1) ≠ e))).1 else L.filter fun y => decide ((y.1, y.2.1) ≠ e)) := by
  have hm : maxLen = 9223372036854775807 := by decide
  have hgl : (gE L).length = L.length := by unfold gE; rw [List.length_map]
  have hGi : g_iGraphOf (n, L) = some ((n, gE L), ()) := h_iGraphOf n L (by omega)
  have hGs : g_sGraphOf (n, L) = some ((n, gE L), ()) := h_sGraphOf n L (by omega)
  obtain ⟨b, b1, b2⟩ := w_iWebOk n L (by omega)
  obtain ⟨b', b1', b2'⟩ := w_sWebOk n L (by omega)
  have hbb : b' = b := by cases b <;> cases b' <;> simp_all
  subst hbb
  show ∃ r : Int × List Led × Int × Int × Bool × Bool, f_iWebTake BIG _ = _ ∧ f_sWebTake BIG _ = _ ∧ _
  rw [e_iWebTake, e_sWebTake, b1, b1', Option.bind_some, Option.bind_some, hGi, hGs]
  cases b' with
  | false => exact ⟨_, rfl, rfl, by simp, fun _ => rfl, fun h => absurd (b2.2 ⟨h.1, h.2.1⟩) (by simp)⟩
  | true =>
    obtain ⟨n0, hw⟩ := b2.1 rfl
    obtain ⟨m, rfl⟩ : ∃ m : Nat, n = (m : Int) := ⟨n.toNat, by omega⟩
    rw [Int.toNat_natCast] at hw
    have hg := hw.gr
    obtain ⟨h1, h12⟩ := gr_n hg
    obtain ⟨hgE, hgn, hL6⟩ := gr_e hg
    simp only [Bool.not_true, cond_false, Option.bind_some]
    rw [h_iHasEdge _ _ _ (by omega), h_sHasEdge _ _ _ (by omega), Option.bind_some, Option.bind_some]
    by_cases hin : e ∈ gE L
    case neg =>
      rw [decide_eq_false hin]
      exact ⟨_, rfl, rfl, by simp, fun _ => rfl, fun h => absurd h.2.2 hin⟩
    rw [decide_eq_true hin]
    simp only [Bool.not_true, cond_false, Option.bind_some]
    have her := edB_in (hgE e hin)
    -- the lost one and the others
    have li : loopT BIG (fun self5 x4 =>
    bif decide (x4.2.2 < (L.length : Int)) then
     Option.bind (bnd L.length x4.2.2 fun n6 =>
      Option.bind L[n6]? fun y7 =>
      Option.bind (bif decide (y7.1 = e.1) then
        some (decide (y7.2.1 = e.2))
       else some false : Option (Bool)) fun x8 =>
      bif x8 then
       some (y7, x4.2.1)
      else bif decide (x4.2.1.2.length + [y7].length ≤ 4294967296) then
       some (x4.1, (x4.2.1.1, x4.2.1.2 ++ [y7]))
      else none : Option ((Int × Int × Int × Bool) × (Int × List (Int × Int × Int × Bool)))) fun x9 =>
     self5 (x9.1, x9.2, IntKind.wrap .i64 (x4.2.2 + (1 : Int)))
    else some (x4.1, x4.2.1)) ((((0 : Int), (0 : Int), (0 : Int), false), ((m : Int), []), (0 : Int)) : Led × (Int × List Led) × Int) = some ((L.foldl (rmS e) (((0 : Int), (0 : Int), (0 : Int), false), [])).1, ((m : Int), (L.foldl (rmS e) (((0 : Int), (0 : Int), (0 : Int), false), [])).2)) := by
      refine loop_eq (fun (x : Led × (Int × List Led) × Int) => ∃ i : Nat, i ≤ L.length ∧ x = (((L.take i).foldl (rmS e) (((0 : Int), (0 : Int), (0 : Int), false), [])).1, ((m : Int), ((L.take i).foldl (rmS e) (((0 : Int), (0 : Int), (0 : Int), false), [])).2), (i : Int))) (fun x => L.length - x.2.2.toNat) (fun _ => _) (fun self x ⟨i, h1, h2⟩ hs => ?_) (n := BIG) (x := _) (by simp [BIG]; omega) ⟨0, by omega, rfl⟩
      subst h2
      simp only
      by_cases hi : i < L.length
      · have hfl := rm_len e L i
        simp only [show ((i : Int) < (L.length : Int)) from by omega, decide_true, cond_true]
        rw [bnd_nat hi, List.getElem?_eq_getElem hi, Option.bind_some, wr1 (by omega)]
        have hst : (L.take (i + 1)).foldl (rmS e) (((0 : Int), (0 : Int), (0 : Int), false), []) = rmS e ((L.take i).foldl (rmS e) (((0 : Int), (0 : Int), (0 : Int), false), [])) L[i] := by
          rw [List.take_succ_eq_append_getElem hi, List.foldl_append]; rfl
        have hn := hs (((L.take (i + 1)).foldl (rmS e) (((0 : Int), (0 : Int), (0 : Int), false), [])).1, ((m : Int), ((L.take (i + 1)).foldl (rmS e) (((0 : Int), (0 : Int), (0 : Int), false), [])).2), ((i + 1 : Nat) : Int)) ⟨i + 1, hi, rfl⟩ (by simp; omega)
        rw [hst] at hn
        unfold rmS at hn
        by_cases c1 : L[i].1 = e.1
        · rw [decide_eq_true c1, cond_true, Option.bind_some]
          by_cases c2 : L[i].2.1 = e.2
          · rw [decide_eq_true c2, cond_true, Option.bind_some]
            rw [if_pos ⟨c1, c2⟩] at hn
            exact hn
          · rw [decide_eq_false c2, cond_false, decide_eq_true (by simp only [List.length_cons, List.length_nil]; omega), cond_true, Option.bind_some]
            rw [if_neg (fun h => c2 h.2)] at hn
            exact hn
        · rw [decide_eq_false c1, cond_false, Option.bind_some, cond_false, decide_eq_true (by simp only [List.length_cons, List.length_nil]; omega), cond_true, Option.bind_some]
          rw [if_neg (fun h => c1 h.1)] at hn
          exact hn
      · simp only [show ¬ ((i : Int) < (L.length : Int)) from by omega, decide_false, cond_false]
        have : i = L.length := by omega
        subst this
        rw [List.take_length]
    have ls : loopT BIG (fun self5 x4 =>
    bif decide (x4.2.2 < (L.length : Int)) then
     Option.bind (Option.bind (bnd L.length x4.2.2 fun n6 =>
       Option.bind L[n6]? fun y7 =>
       bif decide (y7.1 = e.1) then
        bnd L.length x4.2.2 fun n8 =>
        Option.bind L[n8]? fun y9 =>
        some (decide (y9.2.1 = e.2))
       else some false : Option (Bool)) fun x10 =>
      bif x10 then
       bnd L.length x4.2.2 fun n11 =>
       Option.bind L[n11]? fun y12 =>
       some (y12, x4.2.1)
      else bnd L.length x4.2.2 fun n13 =>
      Option.bind L[n13]? fun y14 =>
      bif decide (x4.2.1.2.length + [y14].length ≤ 4294967296) then
       some (x4.1, (x4.2.1.1, x4.2.1.2 ++ [y14]))
      else none : Option ((Int × Int × Int × Bool) × (Int × List (Int × Int × Int × Bool)))) fun x15 =>
     self5 (x15.1, x15.2, IntKind.wrap .i64 (x4.2.2 + (1 : Int)))
    else some (x4.1, x4.2.1)) ((((0 : Int), (0 : Int), (0 : Int), false), ((m : Int), []), (0 : Int)) : Led × (Int × List Led) × Int) = some ((L.foldl (rmS e) (((0 : Int), (0 : Int), (0 : Int), false), [])).1, ((m : Int), (L.foldl (rmS e) (((0 : Int), (0 : Int), (0 : Int), false), [])).2)) := by
      refine loop_eq (fun (x : Led × (Int × List Led) × Int) => ∃ i : Nat, i ≤ L.length ∧ x = (((L.take i).foldl (rmS e) (((0 : Int), (0 : Int), (0 : Int), false), [])).1, ((m : Int), ((L.take i).foldl (rmS e) (((0 : Int), (0 : Int), (0 : Int), false), [])).2), (i : Int))) (fun x => L.length - x.2.2.toNat) (fun _ => _) (fun self x ⟨i, h1, h2⟩ hs => ?_) (n := BIG) (x := _) (by simp [BIG]; omega) ⟨0, by omega, rfl⟩
      subst h2
      simp only
      by_cases hi : i < L.length
      · have hfl := rm_len e L i
        have bi : ∀ {B : Type} {q : Nat → Option B}, bnd L.length (i : Int) q = q i := fun {B q} => bnd_nat hi
        simp only [show ((i : Int) < (L.length : Int)) from by omega, decide_true, cond_true, bi, List.getElem?_eq_getElem hi, Option.bind_some]
        rw [wr1 (by omega)]
        have hst : (L.take (i + 1)).foldl (rmS e) (((0 : Int), (0 : Int), (0 : Int), false), []) = rmS e ((L.take i).foldl (rmS e) (((0 : Int), (0 : Int), (0 : Int), false), [])) L[i] := by
          rw [List.take_succ_eq_append_getElem hi, List.foldl_append]; rfl
        have hn := hs (((L.take (i + 1)).foldl (rmS e) (((0 : Int), (0 : Int), (0 : Int), false), [])).1, ((m : Int), ((L.take (i + 1)).foldl (rmS e) (((0 : Int), (0 : Int), (0 : Int), false), [])).2), ((i + 1 : Nat) : Int)) ⟨i + 1, hi, rfl⟩ (by simp; omega)
        rw [hst] at hn
        unfold rmS at hn
        by_cases c1 : L[i].1 = e.1
        · rw [decide_eq_true c1, cond_true, Option.bind_some]
          by_cases c2 : L[i].2.1 = e.2
          · rw [decide_eq_true c2, cond_true, Option.bind_some]
            rw [if_pos ⟨c1, c2⟩] at hn
            exact hn
          · rw [decide_eq_false c2, cond_false, decide_eq_true (by simp only [List.length_cons, List.length_nil]; omega), cond_true, Option.bind_some]
            rw [if_neg (fun h => c2 h.2)] at hn
            exact hn
        · rw [decide_eq_false c1, cond_false, Option.bind_some, cond_false, decide_eq_true (by simp only [List.length_cons, List.length_nil]; omega), cond_true, Option.bind_some]
          rw [if_neg (fun h => c1 h.1)] at hn
          exact hn
      · simp only [show ¬ ((i : Int) < (L.length : Int)) from by omega, decide_false, cond_false]
        have : i = L.length := by omega
        subst this
        rw [List.take_length]
    rw [li, ls, Option.bind_some, Option.bind_some]
    obtain ⟨s1, s2, s3⟩ := rm_spec e L (((0 : Int), (0 : Int), (0 : Int), false)) []
    have hold := s3 (by
      obtain ⟨y, hy, hye⟩ := List.mem_map.1 hin
      exact ⟨y, hy, hye⟩)
    rw [List.nil_append] at s1
    generalize L.foldl (rmS e) (((0 : Int), (0 : Int), (0 : Int), false), []) = S at s1 hold
    obtain ⟨old, rest⟩ := S
    simp only at s1 hold ⊢
    obtain ⟨hold, holde⟩ := hold
    have hyes : 0 ≤ (m : Int) ∧ WOk (m : Int).toNat L ∧ e ∈ gE L := ⟨n0, by rw [Int.toNat_natCast]; exact hw, hin⟩
    have hsub : rest.Sublist L := by rw [s1]; exact List.filter_sublist
    have hrl := hsub.length_le
    have hgr : grB m (gE rest) = true := by
      have hsE : (gE rest).Sublist (gE L) := List.Sublist.map _ hsub
      have hsrt : Srt (gE L) := by
        have h := hg
        unfold grB at h
        rw [Bool.and_eq_true] at h
        exact (eOk_srt h.2).2.1
      have hG : GrOk (m : Int) (gE rest) := ⟨by omega, by omega, List.Pairwise.sublist hsE hsrt, fun x hx => hgE x (hsE.subset hx)⟩
      unfold grB
      rw [show inB (m : Int) 1 12 = true from inB_t.2 (by omega), eOk_of hG (by unfold gE; rw [List.length_map]; omega)]
      rfl
    have htr : NoCyc (trE rest) := by
      have : NoCyc (trE L) := by rw [trE_0 hw.lv]; exact hw.nc
      exact this.sub fun x hx => (List.Sublist.map _ (List.Sublist.filter _ hsub)).subset hx
    have hlv := hw.lv old hold
    cases ht : old.2.2.2 with
    | false =>
      have h0 : ∀ x : Int, (bif decide ((0 : Int) ≤ x) then some false else some false : Option Bool) = some false := fun x => by cases decide ((0 : Int) ≤ x) <;> rfl
      refine ⟨((m : Int), rest, (0 : Int), (0 : Int), false, true), ?_, rfl, by simp only; omega, fun h => absurd hyes h, fun _ => ⟨old, hold, holde, rfl, rfl, by rw [if_neg (by rw [ht]; simp)]; exact s1⟩⟩
      have : loopT BIG (fun (self12 : (Int × List Led) × (Int × List Led) × (Int × Int) × Int → Option (((Int × List Led) × (Int × List Led) × (Int × Int)) ⊕ ((Int × List Led) × (Int × Int) × Bool × Bool))) x11 =>
    Option.bind (bif decide ((0 : Int) ≤ x11.2.2.2) then
      some false
     else some false : Option (Bool)) fun x13 =>
    bif x13 then
     Option.bind (g_iWeb_look (x11.1, e, x11.2.2.2)) fun r14 =>
     bif r14.1.2.2 then
      some (Sum.inr (r14.2, (r14.1.1, r14.1.2.1), true, true))
     else self12 (r14.2, x11.2.1, x11.2.2.1, IntKind.wrap .i64 (x11.2.2.2 - (1 : Int)))
    else some (Sum.inl (x11.1, x11.2.1, x11.2.2.1))) ((((m : Int), rest), ((0 : Int), []), ((0 : Int), (0 : Int)), old.2.2.1) : (Int × List Led) × (Int × List Led) × (Int × Int) × Int) = some (Sum.inl (((m : Int), rest), ((0 : Int), []), ((0 : Int), (0 : Int)))) := by
        refine loop_eq (fun x => x = ((((m : Int), rest), ((0 : Int), []), ((0 : Int), (0 : Int)), old.2.2.1) : (Int × List Led) × (Int × List Led) × (Int × Int) × Int)) (fun _ => 0) (fun _ => _) (fun self x hx hs => ?_) (n := BIG) (x := _) (by simp [BIG]) rfl
        subst hx
        rw [h0, Option.bind_some, cond_false]
      rw [this, Option.bind_some]
    | true =>
      have hlev : old.2.2.1 = ((old.2.2.1.toNat + 1 : Nat) : Int) - 1 := by omega
      have t1 := lv_i ⟨her.1, her.2.1⟩ ⟨her.2.2.1, her.2.2.2.1⟩ (old.2.2.1.toNat + 1) (by omega) rest ⟨hgr, htr⟩
      have t2 := lv_s ⟨her.1, her.2.1⟩ ⟨her.2.2.1, her.2.2.2.1⟩ (old.2.2.1.toNat + 1) (by omega) rest ⟨hgr, htr⟩
      rw [← hlev] at t1 t2
      simp only [Bool.not_true, cond_false]
      rw [t1, t2, Option.bind_some, Option.bind_some]
      have hl := tkRw_len m e (old.2.2.1.toNat + 1) rest
      rw [Int.toNat_natCast]
      subst s1
      generalize htk : tkRw m e (old.2.2.1.toNat + 1) (L.filter fun y => decide ((y.1, y.2.1) ≠ e)) = t at hl
      obtain ⟨M, o⟩ := t
      simp only at hl
      cases o with
      | none => exact ⟨_, rfl, rfl, by simp only; omega, fun h => absurd hyes h, fun _ => ⟨old, hold, holde, rfl, rfl, by rw [if_pos ht, htk]⟩⟩
      | some y => exact ⟨_, rfl, rfl, by simp only; omega, fun h => absurd hyes h, fun _ => ⟨old, hold, holde, rfl, rfl, by rw [if_pos ht, htk]⟩⟩
abbrev Wb:=Int × List Led
noncomputable def WT (W:Wb) (e:Ed):Int × List Led × Int × Int × Bool × Bool:=((g_iWebTake (W,e)).getD ((0,[],0,0,false,false),())).1
noncomputable def WA (W:Wb) (e:Ed):Int × List Led × Bool:=((g_iWebAdd (W,e)).getD ((0,[],false),())).1
theorem WT_ok {W:Wb} (e:Ed) (h:W.2.length<=1000000):g_iWebTake (W,e)=some (WT W e,())/\g_sWebTake (W,e)=some (WT W e,())/\(WT W e).2.1.length<=66:=by
 obtain ⟨n,L⟩:=W
 obtain ⟨r,h1,h2,h3,_⟩:=w_WebTake n L e h
 have:WT (n,L) e=r:=by unfold WT;rw [h1];rfl
 rw [this]
 exact ⟨h1,h2,h3⟩
theorem WA_ok {W:Wb} (e:Ed) (h:W.2.length<=1000000):g_iWebAdd (W,e)=some (WA W e,())/\g_sWebAdd (W,e)=some (WA W e,())/\(WA W e).2.1.length<=67:=by
 obtain ⟨n,L⟩:=W
 obtain ⟨r,h1,h2,h3,_⟩:=w_WebAdd n L e h
 have:WA (n,L) e=r:=by unfold WA;rw [h1];rfl
 rw [this]
 exact ⟨h1,h2,h3⟩
theorem h_icopyAnswer (y:An) (h1:y.2.2.1.length<=1048576) (h2:y.2.2.2.length<=1048576):g_icopyAnswer y=some (y,()):=by
 show f_icopyAnswer BIG _=_
 have hi:g_icopyInts y.2.2.2=some (y.2.2.2,()):=by
  show f_icopyInts BIG _=_
  rw [e_icopyInts,decide_eq_true (by omega)];rfl
 rw [e_icopyAnswer,h_icopyEdges _ h1,Option.bind_some,hi]
 rfl
theorem h_sl09CopyAnswer (y:An) (h1:y.2.2.1.length<=1048576) (h2:y.2.2.2.length<=1048576):g_sl09CopyAnswer y=some (y,()):=by
 show f_sl09CopyAnswer BIG _=_
 rw [e_sl09CopyAnswer,decide_eq_true (by omega),cond_true,decide_eq_true (by omega),cond_true]
 rfl
theorem h_icopyShard (x0 x1:Int) (L:List Led) (y:An) (hL:L.length<=1048576) (h1:y.2.2.1.length<=1048576) (h2:y.2.2.2.length<=1048576):g_icopyShard (x0,x1,L,y)=some ((x0,x1,L,y),()):=by
 show f_icopyShard BIG _=_
 have hw:g_icopyWeb (x1,L)=some ((x1,L),()):=by
  show f_icopyWeb BIG _=_
  rw [e_icopyWeb,decide_eq_true (by simp only;omega)];rfl
 rw [e_icopyShard]
 simp only [hw,Option.bind_some,h_icopyAnswer y h1 h2]
theorem h_sl10Copy (x0 x1:Int) (L:List Led) (y:An) (hL:L.length<=1048576) (h1:y.2.2.1.length<=1048576) (h2:y.2.2.2.length<=1048576):g_sl10Copy (x0,x1,L,y)=some ((x0,x1,L,y),()):=by
 show f_sl10Copy BIG _=_
 rw [e_sl10Copy,decide_eq_true (by simp only;omega),cond_true]
 simp only [h_sl09CopyAnswer y h1 h2,Option.bind_some,List.nil_append]
noncomputable def reS (v:Int) (s:Wb × List Ed) (y:Ed):Wb × List Ed:=if y.1=v\/y.2=v then (((WT s.1 y).1,(WT s.1 y).2.1),s.2++[y]) else s
noncomputable def acS (s:Wb × Bool) (y:Ed):Wb × Bool:=(if (WA s.1 y).2.2=true then ((WA s.1 y).1,(WA s.1 y).2.1) else s.1,s.2&&(WA s.1 y).2.2)
theorem reS_len (v:Int):∀(es:List Ed) (s:Wb × List Ed),s.1.2.length<=1000000->(es.foldl (reS v) s).1.2.length<=1000000/\(es.foldl (reS v) s).2.length<=s.2.length+es.length
 | [],s,h=>⟨h,by simp⟩
 | y::es,s,h=>by
  rw [List.foldl_cons]
  have h1:=(WT_ok y h).2.2
  by_cases hc:y.1=v\/y.2=v
  ·have hs:reS v s y=(((WT s.1 y).1,(WT s.1 y).2.1),s.2++[y]):=by unfold reS;rw [if_pos hc]
   obtain ⟨a,b⟩:=reS_len v es (reS v s y) (by rw [hs];simp only;omega)
   refine ⟨a,?_⟩
   rw [hs] at b ⊢
   simp only [List.length_append,List.length_cons,List.length_nil] at b ⊢
   omega
  ·have hs:reS v s y=s:=by unfold reS;rw [if_neg hc]
   obtain ⟨a,b⟩:=reS_len v es (reS v s y) (by rw [hs];exact h)
   refine ⟨a,?_⟩
   rw [hs] at b ⊢
   simp only [List.length_cons]
   omega
theorem acS_len:∀(es:List Ed) (s:Wb × Bool),s.1.2.length<=1000000->(es.foldl acS s).1.2.length<=1000000
 | [],s,h=>h
 | y::es,s,h=>by
  rw [List.foldl_cons]
  have h1:=(WA_ok y h).2.2
  refine acS_len es _ ?_
  unfold acS
  simp only
  split
  ·simp only;omega
  ·exact h
theorem fold_take {α S:Type} (st:S->α->S) (s:S) {l:List α} {i:Nat} (hi:i<l.length):(l.take (i+1)).foldl st s=st ((l.take i).foldl st s) l[i]:=by
 rw [List.take_succ_eq_append_getElem hi,List.foldl_append];rfl
section
variable (x0 n:Int) (L:List Led) (y:An) (hL:L.length<=1000000)
include hL
theorem h_release (v:Int):g_iShard_release ((x0,n,L,y),v)=some (((gE L).foldl (reS v) ((n,L),[])).2,(x0,((gE L).foldl (reS v) ((n,L),[])).1.1,((gE L).foldl (reS v) ((n,L),[])).1.2,y)):=by
 have hm:maxLen=9223372036854775807:=by decide
 have hgl:(gE L).length=L.length:=by unfold gE;rw [List.length_map]
 have hO:g_iOwned (x0,n,L,y)=some (gE L,()):=h_iOwned x0 n L y.1 y.2.1 y.2.2.1 y.2.2.2 (by omega)
 show f_iShard_release BIG _=_
 rw [e_iShard_release,hO,Option.bind_some]
 generalize gE L=E at hgl
 have:loopT BIG (fun self2 x1=>
  bif decide (x1.2.2<(E.length:Int)) then
   Option.bind (bnd E.length x1.2.2 fun n3=>
    Option.bind E[n3]? fun y4=>
    Option.bind (bif decide (y4.1=v) then
     some true
     else some (decide (y4.2=v)):Option (Bool)) fun x5=>
    bif x5 then
     Option.bind (g_iWebTake ((x1.1.2.1,x1.1.2.2.1),y4)) fun r6=>
     bif decide (x1.2.1.length+[y4].length<=4294967296) then
      some ((x1.1.1,r6.1.1,r6.1.2.1,x1.1.2.2.2),x1.2.1++[y4])
     else none
    else some (x1.1,x1.2.1):Option ((Int × Int × List (Int × Int × Int × Bool) × Int × Bool × List (Int × Int) × List (Int)) × (List (Int × Int)))) fun x7=>
   self2 (x7.1,x7.2,IntKind.wrap .i64 (x1.2.2+(1:Int)))
  else some (x1.1,x1.2.1)) (((x0,n,L,y),[],(0:Int)):(Int × Int × List Led × An) × List Ed × Int)=some ((x0,(E.foldl (reS v) ((n,L),[])).1.1,(E.foldl (reS v) ((n,L),[])).1.2,y),(E.foldl (reS v) ((n,L),[])).2):=by
  refine loop_eq (fun (x:(Int × Int × List Led × An) × List Ed × Int)=>∃i:Nat,i<=E.length/\x=((x0,((E.take i).foldl (reS v) ((n,L),[])).1.1,((E.take i).foldl (reS v) ((n,L),[])).1.2,y),((E.take i).foldl (reS v) ((n,L),[])).2,(i:Int))) (fun x=>E.length-x.2.2.toNat) (fun _=>_) (fun self x ⟨i,h1,h2⟩ hs => ?_) (n:=BIG) (x:=_) (by simp [BIG];omega) ⟨0,by omega,rfl⟩
  subst h2
  simp only
  by_cases hi:i<E.length
  ·obtain ⟨l1,l2⟩:=reS_len v (E.take i) ((n,L),[]) hL
   rw [List.length_take] at l2
   simp only [List.length_nil] at l2
   have hn:=hs ((x0,((E.take (i+1)).foldl (reS v) ((n,L),[])).1.1,((E.take (i+1)).foldl (reS v) ((n,L),[])).1.2,y),((E.take (i+1)).foldl (reS v) ((n,L),[])).2,((i+1:Nat):Int)) ⟨i+1,hi,rfl⟩ (by simp;omega)
   rw [fold_take _ _ hi] at hn
   obtain ⟨t1,_,t3⟩:=WT_ok E[i] l1
   generalize (E.take i).foldl (reS v) ((n,L),[])=s at l1 l2 hn t1 t3
   obtain ⟨⟨a,M⟩,out⟩:=s
   simp only at l1 l2 t1 t3
   unfold reS at hn
   simp only [show ((i:Int)<(E.length:Int)) from by omega,decide_true,cond_true]
   rw [bnd_nat hi,List.getElem?_eq_getElem hi,Option.bind_some,wr1 (by omega)]
   have hc:(bif decide (E[i].1=v) then some true else some (decide (E[i].2=v)):Option Bool)=some (decide (E[i].1=v\/E[i].2=v)):=by
    by_cases c1:E[i].1=v<;>by_cases c2:E[i].2=v<;>simp [c1,c2]
   rw [hc,Option.bind_some]
   by_cases c:E[i].1=v\/E[i].2=v
   ·rw [decide_eq_true c,cond_true,t1,Option.bind_some,decide_eq_true (by simp only [List.length_cons,List.length_nil];omega),cond_true,Option.bind_some]
    rw [if_pos c] at hn
    exact hn
   ·rw [decide_eq_false c,cond_false,Option.bind_some]
    rw [if_neg c] at hn
    exact hn
  ·simp only [show ¬((i:Int)<(E.length:Int)) from by omega,decide_false,cond_false]
   have:i=E.length:=by omega
   subst this
   rw [List.take_length]
 rw [this,Option.bind_some]
theorem h_releaseS (v num:Int) (E:List Ed) (hE:E.length<=1000000):loopT BIG (fun self20 x19=>
   bif decide (x19.2.2<(E.length:Int)) then
    Option.bind (Option.bind (bnd E.length x19.2.2 fun n21=>
     Option.bind E[n21]? fun y22=>
     bif decide (y22.1=v) then
      some true
     else bnd E.length x19.2.2 fun n23=>
     Option.bind E[n23]? fun y24=>
     some (decide (y24.2=v)):Option (Bool)) fun x25=>
     bif x25 then
      bnd E.length x19.2.2 fun n26=>
      Option.bind E[n26]? fun y27=>
      Option.bind (g_sWebTake (x19.1,y27)) fun r28=>
      bnd E.length x19.2.2 fun n29=>
      Option.bind E[n29]? fun y30=>
      bif decide (x19.2.1.2.2.1.length+[y30].length<=4294967296) then
       some ((r28.1.1,r28.1.2.1),(x19.2.1.1,x19.2.1.2.1,x19.2.1.2.2.1++[y30],x19.2.1.2.2.2))
      else none
     else some (x19.1,x19.2.1):Option ((Int × List (Int × Int × Int × Bool)) × (Int × Bool × List (Int × Int) × List (Int)))) fun x31=>
    self20 (x31.1,x31.2,IntKind.wrap .i64 (x19.2.2+(1:Int)))
   else some (x19.1,x19.2.1)) (((n,L),(num,true,[],[]),(0:Int)):Wb × An × Int)=some ((E.foldl (reS v) ((n,L),[])).1,(num,true,(E.foldl (reS v) ((n,L),[])).2,[])):=by
 have hm:maxLen=9223372036854775807:=by decide
 refine loop_eq (fun (x:Wb × An × Int)=>∃i:Nat,i<=E.length/\x=(((E.take i).foldl (reS v) ((n,L),[])).1,(num,true,((E.take i).foldl (reS v) ((n,L),[])).2,[]),(i:Int))) (fun x=>E.length-x.2.2.toNat) (fun _=>_) (fun self x ⟨i,h1,h2⟩ hs => ?_) (n:=BIG) (x:=_) (by simp [BIG];omega) ⟨0,by omega,rfl⟩
 subst h2
 simp only
 by_cases hi:i<E.length
 ·obtain ⟨l1,l2⟩:=reS_len v (E.take i) ((n,L),[]) hL
  rw [List.length_take] at l2
  simp only [List.length_nil] at l2
  have hn:=hs (((E.take (i+1)).foldl (reS v) ((n,L),[])).1,(num,true,((E.take (i+1)).foldl (reS v) ((n,L),[])).2,[]),((i+1:Nat):Int)) ⟨i+1,hi,rfl⟩ (by simp;omega)
  rw [fold_take _ _ hi] at hn
  obtain ⟨_,t1,t3⟩:=WT_ok E[i] l1
  generalize (E.take i).foldl (reS v) ((n,L),[])=s at l1 l2 hn t1 t3
  obtain ⟨W,out⟩:=s
  simp only at l1 l2 t1 t3
  unfold reS at hn
  have bi:∀{B:Type} {q:Nat->Option B},bnd E.length (i:Int) q=q i:=fun {B q}=>bnd_nat hi
  simp only [show ((i:Int)<(E.length:Int)) from by omega,decide_true,cond_true,bi,List.getElem?_eq_getElem hi,Option.bind_some]
  rw [wr1 (by omega)]
  have hc:(bif decide (E[i].1=v) then some true else some (decide (E[i].2=v)):Option Bool)=some (decide (E[i].1=v\/E[i].2=v)):=by
   by_cases c1:E[i].1=v<;>by_cases c2:E[i].2=v<;>simp [c1,c2]
  rw [hc,Option.bind_some]
  by_cases c:E[i].1=v\/E[i].2=v
  ·rw [decide_eq_true c,cond_true,t1,Option.bind_some,decide_eq_true (by simp only [List.length_cons,List.length_nil];omega),cond_true,Option.bind_some]
   rw [if_pos c] at hn
   exact hn
  ·rw [decide_eq_false c,cond_false,Option.bind_some]
   rw [if_neg c] at hn
   exact hn
 ·simp only [show ¬((i:Int)<(E.length:Int)) from by omega,decide_false,cond_false]
  have:i=E.length:=by omega
  subst this
  rw [List.take_length]
theorem h_accept (E:List Ed) (hE:E.length<=1000000):g_iShard_accept ((x0,n,L,y),E)=some ((E.foldl acS ((n,L),true)).2,(x0,(E.foldl acS ((n,L),true)).1.1,(E.foldl acS ((n,L),true)).1.2,y)):=by
 have hm:maxLen=9223372036854775807:=by decide
 show f_iShard_accept BIG _=_
 rw [e_iShard_accept]
 have:loopT BIG (fun self1 x0=>
  bif decide (x0.2.2<(E.length:Int)) then
   Option.bind (bnd E.length x0.2.2 fun n2=>
    Option.bind E[n2]? fun y3=>
    Option.bind (g_iWebAdd ((x0.1.2.1,x0.1.2.2.1),y3)) fun r4=>
    Option.bind (bif r4.1.2.2 then
     some (x0.1.1,r4.1.1,r4.1.2.1,x0.1.2.2.2)
     else some x0.1:Option ((Int × Int × List (Int × Int × Int × Bool) × Int × Bool × List (Int × Int) × List (Int)))) fun x5=>
    Option.bind (bif x0.2.1 then
     some r4.1.2.2
     else some false:Option (Bool)) fun x6=>
    some (x5,x6):Option ((Int × Int × List (Int × Int × Int × Bool) × Int × Bool × List (Int × Int) × List (Int)) × Bool)) fun x7=>
   self1 (x7.1,x7.2,IntKind.wrap .i64 (x0.2.2+(1:Int)))
  else some (x0.1,x0.2.1)) (((x0,n,L,y),true,(0:Int)):(Int × Int × List Led × An) × Bool × Int)=some ((x0,(E.foldl acS ((n,L),true)).1.1,(E.foldl acS ((n,L),true)).1.2,y),(E.foldl acS ((n,L),true)).2):=by
  refine loop_eq (fun (x:(Int × Int × List Led × An) × Bool × Int)=>∃i:Nat,i<=E.length/\x=((x0,((E.take i).foldl acS ((n,L),true)).1.1,((E.take i).foldl acS ((n,L),true)).1.2,y),((E.take i).foldl acS ((n,L),true)).2,(i:Int))) (fun x=>E.length-x.2.2.toNat) (fun _=>_) (fun self x ⟨i,h1,h2⟩ hs => ?_) (n:=BIG) (x:=_) (by simp [BIG];omega) ⟨0,by omega,rfl⟩
  subst h2
  simp only
  by_cases hi:i<E.length
  ·have l1:=acS_len (E.take i) ((n,L),true) hL
   have hn:=hs ((x0,((E.take (i+1)).foldl acS ((n,L),true)).1.1,((E.take (i+1)).foldl acS ((n,L),true)).1.2,y),((E.take (i+1)).foldl acS ((n,L),true)).2,((i+1:Nat):Int)) ⟨i+1,hi,rfl⟩ (by simp;omega)
   rw [fold_take _ _ hi] at hn
   obtain ⟨t1,_,t3⟩:=WA_ok E[i] l1
   generalize (E.take i).foldl acS ((n,L),true)=s at l1 hn t1 t3
   obtain ⟨⟨a,M⟩,al⟩:=s
   simp only at l1 t1 t3
   unfold acS at hn
   simp only [show ((i:Int)<(E.length:Int)) from by omega,decide_true,cond_true]
   rw [bnd_nat hi,List.getElem?_eq_getElem hi,Option.bind_some,wr1 (by omega),t1,Option.bind_some]
   simp only at hn ⊢
   cases hok:(WA (a,M) E[i]).2.2 with
   | true=>
    rw [hok] at hn
    simp only [if_true,Bool.and_true] at hn
    cases al<;>exact hn
   | false=>
    rw [hok] at hn
    simp only [Bool.false_eq_true,if_false,Bool.and_false] at hn
    cases al<;>exact hn
  ·simp only [show ¬((i:Int)<(E.length:Int)) from by omega,decide_false,cond_false]
   have:i=E.length:=by omega
   subst this
   rw [List.take_length]
 rw [this,Option.bind_some]
theorem h_acceptS (num:Int) (E:List Ed) (hE:E.length<=1000000):loopT BIG (fun self7 x6=>
   bif decide (x6.2.2<(E.length:Int)) then
    Option.bind (bnd E.length x6.2.2 fun n8=>
     Option.bind E[n8]? fun y9=>
     Option.bind (g_sWebAdd (x6.1,y9)) fun r10=>
     Option.bind (bif r10.1.2.2 then
      some (r10.1.1,r10.1.2.1)
      else some x6.1:Option ((Int × List (Int × Int × Int × Bool)))) fun x11=>
     Option.bind (bif x6.2.1.2.1 then
      some (x6.2.1.1,r10.1.2.2,x6.2.1.2.2)
      else some (x6.2.1.1,false,x6.2.1.2.2):Option ((Int × Bool × List (Int × Int) × List (Int)))) fun x12=>
     some (x11,x12):Option ((Int × List (Int × Int × Int × Bool)) × (Int × Bool × List (Int × Int) × List (Int)))) fun x13=>
    self7 (x13.1,x13.2,IntKind.wrap .i64 (x6.2.2+(1:Int)))
   else some (x6.1,x6.2.1)) (((n,L),(num,true,[],[]),(0:Int)):Wb × An × Int)=some ((E.foldl acS ((n,L),true)).1,(num,(E.foldl acS ((n,L),true)).2,[],[])):=by
 have hm:maxLen=9223372036854775807:=by decide
 refine loop_eq (fun (x:Wb × An × Int)=>∃i:Nat,i<=E.length/\x=(((E.take i).foldl acS ((n,L),true)).1,(num,((E.take i).foldl acS ((n,L),true)).2,[],[]),(i:Int))) (fun x=>E.length-x.2.2.toNat) (fun _=>_) (fun self x ⟨i,h1,h2⟩ hs => ?_) (n:=BIG) (x:=_) (by simp [BIG];omega) ⟨0,by omega,rfl⟩
 subst h2
 simp only
 by_cases hi:i<E.length
 ·have l1:=acS_len (E.take i) ((n,L),true) hL
  have hn:=hs (((E.take (i+1)).foldl acS ((n,L),true)).1,(num,((E.take (i+1)).foldl acS ((n,L),true)).2,[],[]),((i+1:Nat):Int)) ⟨i+1,hi,rfl⟩ (by simp;omega)
  rw [fold_take _ _ hi] at hn
  obtain ⟨_,t1,t3⟩:=WA_ok E[i] l1
  generalize (E.take i).foldl acS ((n,L),true)=s at l1 hn t1 t3
  obtain ⟨W,al⟩:=s
  simp only at l1 t1 t3
  unfold acS at hn
  simp only [show ((i:Int)<(E.length:Int)) from by omega,decide_true,cond_true]
  rw [bnd_nat hi,List.getElem?_eq_getElem hi,Option.bind_some,wr1 (by omega),t1,Option.bind_some]
  simp only at hn ⊢
  cases hok:(WA W E[i]).2.2 with
  | true=>
   rw [hok] at hn
   simp only [if_true,Bool.and_true] at hn
   cases al<;>exact hn
  | false=>
   rw [hok] at hn
   simp only [Bool.false_eq_true,if_false,Bool.and_false] at hn
   cases al<;>exact hn
 ·simp only [show ¬((i:Int)<(E.length:Int)) from by omega,decide_false,cond_false]
  have:i=E.length:=by omega
  subst this
  rw [List.take_length]
end
def cz (n:Nat) (E:List Ed) (v:Int):Nat:=(labs n E).count ((labs n E).getD v.toNat 0)
theorem cmp_cz (n:Nat) (L:List Led) (k:Int) (v:Int):cmp n L k v=cz n (atE L k) v:=rfl
def czL (n:Nat) (E:List Ed) (v:Int):List Nat:=(List.range n).filter fun i=>decide ((labs n E).getD i 0=(labs n E).getD v.toNat 0)
theorem cz_len (n:Nat) (E:List Ed) (v:Int):cz n E v=(czL n E v).length:=by
 unfold cz czL
 rw [cnt_eq,labs_len]
theorem czL_nd (n:Nat) (E:List Ed) (v:Int):(czL n E v).Nodup:=(List.nodup_range (n:=n)).sublist List.filter_sublist
theorem czL_mem {n:Nat} {E:List Ed} (hE:EIn n E) {v:Int} (hv:0<=v/\v<n) (i:Nat):i∈czL n E v↔i<n/\Con E v i:=by
 unfold czL
 rw [List.mem_filter,List.mem_range,decide_eq_true_eq]
 constructor
 ·rintro ⟨h1,h2⟩
  have hl:=labs_ok hE
  have:=hl.iff (getD_at (show i<(labs n E).length by rw [labs_len];omega)) (getD_at (show v.toNat<(labs n E).length by rw [labs_len];omega))
  rw [Int.toNat_of_nonneg hv.1] at this
  exact ⟨h1,(this.1 h2).symm⟩
 ·rintro ⟨h1,h2⟩
  have hl:=labs_ok hE
  have:=hl.iff (getD_at (show i<(labs n E).length by rw [labs_len];omega)) (getD_at (show v.toNat<(labs n E).length by rw [labs_len];omega))
  rw [Int.toNat_of_nonneg hv.1] at this
  exact ⟨h1,this.2 h2.symm⟩
theorem cz_le (n:Nat) (E:List Ed) (v:Int):cz n E v<=n:=by
 have:=List.count_le_length (a:=(labs n E).getD v.toNat 0) (l:=labs n E)
 rw [labs_len] at this
 exact this
theorem cz_mono {n:Nat} {E E':List Ed} (hE:EIn n E) (hE':EIn n E') {v w:Int} (hv:0<=v/\v<n) (hw:0<=w/\w<n) (h:∀x,Con E v x->Con E' w x):cz n E v<=cz n E' w:=by
 rw [cz_len,cz_len]
 refine nodup_sub _ _ (czL_nd n E v) fun i hi => ?_
 obtain ⟨h1,h2⟩:=(czL_mem hE hv i).1 hi
 exact (czL_mem hE' hw i).2 ⟨h1,h _ h2⟩
theorem cz_add {n:Nat} {E E':List Ed} (hE:EIn n E) (hE':EIn n E') {v u w:Int} (hv:0<=v/\v<n) (hu:0<=u/\u<n) (hw:0<=w/\w<n) (h1:∀x,Con E v x->Con E' w x) (h2:∀x,Con E u x->Con E' w x) (hd:¬Con E v u):cz n E v+cz n E u<=cz n E' w:=by
 rw [cz_len,cz_len,cz_len,<-List.length_append]
 refine nodup_sub _ _ (List.nodup_append.2 ⟨czL_nd n E v,czL_nd n E u,fun i hi j hj hij => ?_⟩) fun i hi => ?_
 ·subst hij
  exact hd (((czL_mem hE hv i).1 hi).2.trans ((czL_mem hE hu i).1 hj).2.symm)
 ·rcases List.mem_append.1 hi with hi|hi
  ·obtain ⟨g1,g2⟩:=(czL_mem hE hv i).1 hi
   exact (czL_mem hE' hw i).2 ⟨g1,h1 _ g2⟩
  ·obtain ⟨g1,g2⟩:=(czL_mem hE hu i).1 hi
   exact (czL_mem hE' hw i).2 ⟨g1,h2 _ g2⟩
theorem cz_pos {n:Nat} {E:List Ed} (hE:EIn n E) {v:Int} (hv:0<=v/\v<n):1<=cz n E v:=by
 rw [cz_len]
 exact List.length_pos_of_mem ((czL_mem hE hv v.toNat).2 ⟨by omega,by rw [Int.toNat_of_nonneg hv.1];exact .refl _⟩)
theorem mem_atE {L:List Led} {k:Int} {e:Ed}:e∈atE L k↔∃y,y∈L/\y.2.2.2=true/\k<=y.2.2.1/\(y.1,y.2.1)=e:=by
 unfold atE
 simp only [List.mem_map,List.mem_filter,Bool.and_eq_true,decide_eq_true_eq,and_assoc]
theorem con_two {E:List Ed} {e:Ed} {r o:Int} (h:(r=e.1/\o=e.2)\/(r=e.2/\o=e.1)) {u v:Int}:Con (E++[e]) u v↔Con E u v\/(Con E u r/\Con E o v)\/(Con E u o/\Con E r v):=by
 obtain ⟨a,b⟩:=e
 rw [Con.snoc]
 rcases h with ⟨rfl,rfl⟩|⟨rfl,rfl⟩
 ·exact Iff.rfl
 ·constructor
  ·rintro (h|h|h)
   ·exact .inl h
   ·exact .inr (.inr h)
   ·exact .inr (.inl h)
  ·rintro (h|h|h)
   ·exact .inl h
   ·exact .inr (.inr h)
   ·exact .inr (.inl h)
structure Inv (n:Nat) (M:List Led) (e:Ed) (k:Int):Prop where
 gr:grB n (gE M)=true
 lv:∀x,x∈M->0<=x.2.2.1/\x.2.2.1<=4
 nc:NoCyc (atE M 0)
 dis:¬Con (atE M 0) e.1 e.2
 hi:∀x,x∈M->x.2.2.2=false->k<x.2.2.1->Con (atE M x.2.2.1) x.1 x.2.1
 lo:∀x,x∈M->x.2.2.2=false->x.2.2.1<=k->Con (atE M x.2.2.1++[e]) x.1 x.2.1
 sz:∀j:Nat,1<=j->j<=4->∀f,f∈atE M j->cz n (atE M j) f.1<=n / 2 ^ j
 sz':∀j:Nat,(j:Int)<=k->cz n (atE M j++[e]) e.1<=n / 2 ^ j
theorem Inv.wok {n:Nat} {M:List Led} {e:Ed} (h:Inv n M e (-1)):WOk n M:=
 ⟨h.gr,h.lv,h.nc,fun x hx ht=>by
  have hr:=edB_in ((gr_e h.gr).1 (x.1,x.2.1) (List.mem_map.2 ⟨x,hx,rfl⟩))
  exact (lbl_iff h.gr _ ⟨hr.1,hr.2.1⟩ ⟨hr.2.2.1,hr.2.2.2.1⟩).2 (h.hi x hx ht (by have:=(h.lv x hx).1;omega)),h.sz⟩
section
variable {n:Nat} {M:List Led} {e:Ed} {k:Nat} (hI:Inv n M e (k:Int)) (k3:k<=3) (ha:0<=e.1/\e.1<n) (hb:0<=e.2/\e.2<n)
 {r o:Int} (hro:(r=e.1/\o=e.2)\/(r=e.2/\o=e.1)) (hsm:cz n (atE M k) r<=cz n (atE M k) o)
 {s:Int->Bool} (hs:∀x:Int,0<=x/\x<n->(s x=true↔Con (atE M k) r x))
include hI
theorem Inv.rg {x:Led} (hx:x∈M):(0<=x.1/\x.1<n)/\(0<=x.2.1/\x.2.1<n):=by
 have hr:=edB_in ((gr_e hI.gr).1 (x.1,x.2.1) (List.mem_map.2 ⟨x,hx,rfl⟩))
 simp only at hr
 omega
theorem Inv.rgE {j:Int} {f:Ed} (hf:f∈atE M j):(0<=f.1/\f.1<n)/\(0<=f.2/\f.2<n):=by
 obtain ⟨y,h1,_,_,rfl⟩:=mem_atE.1 hf
 exact hI.rg h1
theorem Inv.ein (j:Int):EIn n (atE M j):=gr_ein hI.gr j
include ha hb
theorem Inv.eine (j:Int):EIn n (atE M j++[e]):=fun f hf=>by
 rcases List.mem_append.1 hf with h|h
 ·exact hI.ein j f h
 ·rw [List.mem_singleton.1 h];exact ⟨ha.1,ha.2,hb.1,hb.2⟩
include hro
theorem Inv.dis' (j:Int) (hj:0<=j):¬Con (atE M j) r o:=by
 intro h
 have h0:=h.mono (atE_mono (L:=M) hj)
 rcases hro with ⟨rfl,rfl⟩|⟨rfl,rfl⟩
 ·exact hI.dis h0
 ·exact hI.dis h0.symm
include hsm
theorem Inv.half:cz n (atE M k) r<=n / 2 ^ (k+1):=by
 have hr:0<=r/\r<n:=by rcases hro with ⟨rfl,rfl⟩|⟨rfl,rfl⟩<;>assumption
 have ho:0<=o/\o<n:=by rcases hro with ⟨rfl,rfl⟩|⟨rfl,rfl⟩<;>assumption
 have hsub:∀{x y:Int},Con (atE M k) x y->Con (atE M k++[e]) x y:=fun h=>h.mono fun f hf=>List.mem_append_left _ hf
 have hre:Con (atE M k++[e]) e.1 e.2:=.of (List.mem_append_right _ (List.mem_singleton.2 rfl))
 have h1:Con (atE M k++[e]) e.1 r:=by
  rcases hro with ⟨rfl,rfl⟩|⟨rfl,rfl⟩
  ·exact .refl _
  ·exact hre
 have h2:Con (atE M k++[e]) e.1 o:=by
  rcases hro with ⟨rfl,rfl⟩|⟨rfl,rfl⟩
  ·exact hre
  ·exact .refl _
 have:=cz_add (hI.ein k) (hI.eine ha hb k) hr ho ha (fun x hx=>h1.trans (hsub hx)) (fun x hx=>h2.trans (hsub hx)) (hI.dis' ha hb hro k (by omega))
 have h3:=hI.sz' k (by omega)
 rw [Nat.pow_succ,<-Nat.div_div_eq_div_mul]
 omega
end
def f1 (s:Int->Bool) (k:Int) (y:Led):Led:=if p1L s k y=1 then rzL k y else y
theorem f1_raise {s:Int->Bool} {k:Int} {y:Led} (k3:k<=3) (c:y.2.2.2=true/\y.2.2.1=k/\s y.1=true):f1 s k y=(y.1,y.2.1,k+1,true):=by
 unfold f1 p1L rzL upL
 rw [if_pos c,if_pos rfl,if_neg (by omega),c.1]
theorem f1_keep {s:Int->Bool} {k:Int} {y:Led} (c:¬(y.2.2.2=true/\y.2.2.1=k/\s y.1=true)):f1 s k y=y:=by
 unfold f1 p1L
 rw [if_neg c,if_neg (by omega)]
section
variable {M:List Led} {s:Int->Bool} {k:Int} (k3:k<=3)
include k3
theorem m1_ne {j:Int} (hj:j≠k+1) {f:Ed}:f∈atE (M.map (f1 s k)) j↔f∈atE M j:=by
 rw [mem_atE,mem_atE]
 constructor
 ·rintro ⟨y',hy',ht,hl,he⟩
  obtain ⟨y,hy,rfl⟩:=List.mem_map.1 hy'
  by_cases c:y.2.2.2=true/\y.2.2.1=k/\s y.1=true
  ·rw [f1_raise k3 c] at ht hl he
   simp only at ht hl he
   exact ⟨y,hy,c.1,by omega,he⟩
  ·rw [f1_keep c] at ht hl he
   exact ⟨y,hy,ht,hl,he⟩
 ·rintro ⟨y,hy,ht,hl,he⟩
  refine ⟨f1 s k y,List.mem_map.2 ⟨y,hy,rfl⟩,?_⟩
  by_cases c:y.2.2.2=true/\y.2.2.1=k/\s y.1=true
  ·rw [f1_raise k3 c]
   exact ⟨rfl,by simp only;omega,he⟩
  ·rw [f1_keep c]
   exact ⟨ht,hl,he⟩
theorem m1_eq {f:Ed}:f∈atE (M.map (f1 s k)) (k+1)↔f∈atE M (k+1)\/(f∈atE M k/\s f.1=true):=by
 rw [mem_atE,mem_atE,mem_atE]
 constructor
 ·rintro ⟨y',hy',ht,hl,he⟩
  obtain ⟨y,hy,rfl⟩:=List.mem_map.1 hy'
  by_cases c:y.2.2.2=true/\y.2.2.1=k/\s y.1=true
  ·rw [f1_raise k3 c] at ht hl he
   simp only at ht hl he
   exact .inr ⟨⟨y,hy,c.1,by omega,he⟩,by rw [<-he];exact c.2.2⟩
  ·rw [f1_keep c] at ht hl he
   exact .inl ⟨y,hy,ht,hl,he⟩
 ·rintro (⟨y,hy,ht,hl,he⟩|⟨⟨y,hy,ht,hl,he⟩,hsf⟩)
  ·refine ⟨f1 s k y,List.mem_map.2 ⟨y,hy,rfl⟩,?_⟩
   rw [f1_keep (fun c=>by omega)]
   exact ⟨ht,hl,he⟩
  ·refine ⟨f1 s k y,List.mem_map.2 ⟨y,hy,rfl⟩,?_⟩
   by_cases c:y.2.2.2=true/\y.2.2.1=k/\s y.1=true
   ·rw [f1_raise k3 c]
    exact ⟨rfl,by simp only;omega,he⟩
   ·rw [f1_keep c]
    refine ⟨ht,?_,he⟩
    have:y.2.2.1≠k:=fun h=>c ⟨ht,h,by rw [<-he] at hsf;exact hsf⟩
    omega
theorem m1_sub {j:Int} {f:Ed} (h:f∈atE M j):f∈atE (M.map (f1 s k)) j:=by
 by_cases hj:j=k+1
 ·subst hj
  exact (m1_eq k3).2 (.inl h)
 ·exact (m1_ne k3 hj).2 h
theorem m1_non {y:Led} (ht:y.2.2.2=false):y∈M.map (f1 s k)↔y∈M:=by
 constructor
 ·intro hy'
  obtain ⟨y0,hy,rfl⟩:=List.mem_map.1 hy'
  by_cases c:y0.2.2.2=true/\y0.2.2.1=k/\s y0.1=true
  ·rw [f1_raise k3 c] at ht
   cases ht
  ·rw [f1_keep c]
   exact hy
 ·intro hy
  exact List.mem_map.2 ⟨y,hy,f1_keep (fun c=>by rw [ht] at c;cases c.1)⟩
theorem m1_lv (h:∀x,x∈M->0<=x.2.2.1/\x.2.2.1<=4) (k0:0<=k):∀x,x∈M.map (f1 s k)->0<=x.2.2.1/\x.2.2.1<=4:=by
 intro x hx
 obtain ⟨y,hy,rfl⟩:=List.mem_map.1 hx
 by_cases c:y.2.2.2=true/\y.2.2.1=k/\s y.1=true
 ·rw [f1_raise k3 c]
  simp only
  omega
 ·rw [f1_keep c]
  exact h y hy
end
section
variable {n:Nat} {M:List Led} {e:Ed} {k:Nat} (hI:Inv n M e (k:Int)) (k3:(k:Int)<=3) (ha:0<=e.1/\e.1<n) (hb:0<=e.2/\e.2<n)
 {r o:Int} (hro:(r=e.1/\o=e.2)\/(r=e.2/\o=e.1)) (hsm:cz n (atE M k) r<=cz n (atE M k) o)
 {s:Int->Bool} (hs:∀x:Int,0<=x/\x<n->(s x=true↔Con (atE M k) r x))
include hI k3 ha hb hro hsm hs
theorem m1_up {x:Int} (h:Con (atE M k) r x):Con (atE (M.map (f1 s k)) ((k:Int)+1)) r x:=by
 have hr:0<=r/\r<n:=by rcases hro with ⟨rfl,rfl⟩|⟨rfl,rfl⟩<;>assumption
 induction h with
 | refl=>exact .refl _
 | fwd hc hm ih=>
  refine .fwd ih ((m1_eq k3).2 (.inr ⟨hm,?_⟩))
  exact (hs _ (hI.rgE hm).1).2 hc
 | bwd hc hm ih=>
  refine .bwd ih ((m1_eq k3).2 (.inr ⟨hm,?_⟩))
  exact (hs _ (hI.rgE hm).1).2 (.bwd hc hm)
theorem m1_off {v x:Int} (hv:¬Con (atE M k) r v) (h:Con (atE (M.map (f1 s k)) ((k:Int)+1)) v x):Con (atE M ((k:Int)+1)) v x:=by
 have hsub:∀{x y:Int},Con (atE M ((k:Int)+1)) x y->Con (atE M k) x y:=fun h=>h.mono (atE_mono (by omega))
 induction h with
 | refl=>exact .refl _
 | fwd hc hm ih=>
  rcases (m1_eq k3).1 hm with hm|⟨hm,hsf⟩
  ·exact .fwd ih hm
  ·exfalso
   exact hv (((hs _ (hI.rgE hm).1).1 hsf).trans (hsub ih).symm)
 | bwd hc hm ih=>
  rcases (m1_eq k3).1 hm with hm|⟨hm,hsf⟩
  ·exact .bwd ih hm
  ·exfalso
   exact hv ((Con.fwd ((hs _ (hI.rgE hm).1).1 hsf) hm).trans (hsub ih).symm)
theorem m1_ein (j:Int):EIn n (atE (M.map (f1 s k)) j):=fun f hf=>by
 by_cases hj:j=(k:Int)+1
 ·subst hj
  rcases (m1_eq k3).1 hf with h|h
  ·exact hI.ein _ f h
  ·exact hI.ein _ f h.1
 ·exact hI.ein _ f ((m1_ne k3 hj).1 hf)
theorem m1_sz (j:Nat) (j1:1<=j) (j4:j<=4):∀f,f∈atE (M.map (f1 s k)) j->cz n (atE (M.map (f1 s k)) j) f.1<=n / 2 ^ j:=by
 intro f hf
 have hein:=m1_ein hI k3 ha hb hro hsm hs
 have hr:0<=r/\r<n:=by rcases hro with ⟨rfl,rfl⟩|⟨rfl,rfl⟩<;>assumption
 by_cases hj:(j:Int)=(k:Int)+1
 ·have hjk:j=k+1:=by omega
  subst hjk
  have hcast:((k+1:Nat):Int)=(k:Int)+1:=by omega
  rw [hcast] at hf ⊢
  by_cases hc:Con (atE M k) r f.1
  ·refine Nat.le_trans (cz_mono (hein _) (hI.ein k) ?_ hr fun x hx=>hc.trans (hx.sub fun g hg => ?_)) (hI.half ha hb hro hsm)
   ·exact (hc.range (hI.ein k) hr)
   ·rcases (m1_eq k3).1 hg with h|h
    ·exact .of (atE_mono (by omega) g h)
    ·exact .of h.1
  ·have hf':f∈atE M ((k:Int)+1):=by
    rcases (m1_eq k3).1 hf with h|⟨h,h'⟩
    ·exact h
    ·exact absurd ((hs _ (hI.rgE h).1).1 h') hc
   have:=hI.sz (k+1) j1 j4 f (by rw [hcast];exact hf')
   rw [hcast] at this
   exact Nat.le_trans (cz_mono (hein _) (hI.ein _) (hI.rgE hf').1 (hI.rgE hf').1 fun x hx=>m1_off hI k3 ha hb hro hsm hs hc hx) this
 ·have hf':=(m1_ne k3 hj).1 hf
  exact Nat.le_trans (cz_mono (hein _) (hI.ein _) (hI.rgE hf').1 (hI.rgE hf').1 fun x hx=>hx.mono fun g hg=>(m1_ne k3 hj).1 hg) (hI.sz j j1 j4 f hf')
theorem inv_none {M2:List Led} (h2:M2=(M.map (f1 s k)).map fun y=>if p2L s k y=1 then rzL k y else y) (hno:∀y,y∈M.map (f1 s k)->p2L s k y≠2) (hgE:gE M2=gE M):Inv n M2 e ((k:Int)-1):=by
 have hr:0<=r/\r<n:=by rcases hro with ⟨rfl,rfl⟩|⟨rfl,rfl⟩<;>assumption
 have hein:=m1_ein hI k3 ha hb hro hsm hs
 have hB:∀(j:Int) (f:Ed),f∈atE M2 j↔f∈atE (M.map (f1 s k)) j:=by
  intro j f
  rw [h2,mem_atE,mem_atE]
  constructor
  ·rintro ⟨y',hy',ht,hl,he⟩
   obtain ⟨y,hy,rfl⟩:=List.mem_map.1 hy'
   by_cases c:p2L s k y=1
   ·rw [if_pos c] at ht
    have ht':y.2.2.2=true:=ht
    unfold p2L at c
    rw [if_pos (.inl ht')] at c
    omega
   ·rw [if_neg c] at ht hl he
    exact ⟨y,hy,ht,hl,he⟩
  ·rintro ⟨y,hy,ht,hl,he⟩
   refine ⟨y,List.mem_map.2 ⟨y,hy,if_neg fun c => ?_⟩,ht,hl,he⟩
   unfold p2L at c
   rw [if_pos (.inl ht)] at c
   omega
 have hlow:∀(j:Int) (f:Ed),j<=k->(f∈atE M2 j↔f∈atE M j):=fun j f hj=>(hB j f).trans (m1_ne k3 (by omega))
 have hup:∀(j:Int) (f:Ed),f∈atE M j->f∈atE M2 j:=fun j f h=>(hB j f).2 (m1_sub k3 h)
 -- what is no edge of a forest
 have hnon:∀x,x∈M2->x.2.2.2=false->(x∈M/\p2L s k x≠1)\/∃y,y∈M/\y.2.2.2=false/\p2L s k y=1/\x=rzL k y:=by
  intro x hx ht
  rw [h2] at hx
  obtain ⟨y,hy,rfl⟩:=List.mem_map.1 hx
  by_cases c:p2L s k y=1
  ·rw [if_pos c] at ht ⊢
   exact .inr ⟨y,(m1_non k3 (show y.2.2.2=false from ht)).1 hy,ht,c,rfl⟩
  ·rw [if_neg c] at ht ⊢
   exact .inl ⟨(m1_non k3 ht).1 hy,c⟩
 have hrz:∀y:Led,(rzL k y).2.2.1=(k:Int)+1:=fun y=>by
  unfold rzL upL
  rw [if_neg (by omega)]
 have hp1:∀y:Led,y∈M->p2L s k y=1->Con (atE M k) r y.1/\Con (atE M k) r y.2.1:=by
  intro y hy c
  unfold p2L at c
  obtain ⟨g1,g2⟩:=hI.rg hy
  split at c
  ·omega
  ·split at c
   ·rename_i h
    exact ⟨(hs _ g1).1 h.1,(hs _ g2).1 h.2⟩
   ·omega
 refine ⟨by rw [hgE];exact hI.gr,?_,hI.nc.sub fun f hf=>(hlow 0 f (by omega)).1 hf,fun h=>hI.dis (h.mono fun f hf=>(hlow 0 f (by omega)).1 hf),?_,?_,?_,?_⟩
 ·intro x hx
  rw [h2] at hx
  obtain ⟨y,hy,rfl⟩:=List.mem_map.1 hx
  by_cases c:p2L s k y=1
  ·rw [if_pos c,hrz]
   omega
  ·rw [if_neg c]
   exact m1_lv k3 hI.lv (by omega) y hy
 ·intro x hx ht hlv
  rcases hnon x hx ht with ⟨hxM,c⟩|⟨y,hy,hty,c,rfl⟩
  ·by_cases hk:x.2.2.1=k
   ·-- off the lesser side
    have hp:s x.1=false/\s x.2.1=false:=by
     have h2':=hno x ((m1_non k3 ht).2 hxM)
     unfold p2L at c h2'
     split at c
     ·rename_i h
      rcases h with h|h|h
      ·rw [ht] at h;cases h
      ·exact absurd hk h
      ·exact h
     ·rename_i h
      rw [if_neg h] at h2'
      split at c
      ·exact absurd rfl c
      ·rename_i h'
       rw [if_neg h'] at h2'
       exact absurd rfl h2'
    obtain ⟨g1,g2⟩:=hI.rg hxM
    have n1:¬Con (atE M k) r x.1:=fun h=>by
     have:=(hs _ g1).2 h
     rw [hp.1] at this;cases this
    have n2:¬Con (atE M k) r x.2.1:=fun h=>by
     have:=(hs _ g2).2 h
     rw [hp.2] at this;cases this
    have:=hI.lo x hxM ht (by omega)
    rw [hk] at this ⊢
    rcases (con_two hro).1 this with h|⟨h,_⟩|⟨_,h⟩
    ·exact h.mono fun f hf=>hup k f hf
    ·exact absurd h.symm n1
    ·exact absurd h n2
   ·exact (hI.hi x hxM ht (by omega)).mono fun f hf=>hup _ f hf
  ·rw [hrz]
   obtain ⟨c1,c2⟩:=hp1 y hy c
   have u1:=m1_up hI k3 ha hb hro hsm hs c1
   have u2:=m1_up hI k3 ha hb hro hsm hs c2
   exact (u1.symm.trans u2).mono fun f hf=>(hB _ f).2 hf
 ·intro x hx ht hlv
  rcases hnon x hx ht with ⟨hxM,c⟩|⟨y,hy,hty,c,rfl⟩
  ·refine (hI.lo x hxM ht (by omega)).mono fun f hf => ?_
   rcases List.mem_append.1 hf with h|h
   ·exact List.mem_append_left _ (hup _ f h)
   ·exact List.mem_append_right _ h
  ·rw [hrz] at hlv
   omega
 ·intro j j1 j4 f hf
  have hf':=(hB j f).1 hf
  have hrf:0<=f.1/\f.1<n:=by
   have:=hein _ f hf'
   omega
  refine Nat.le_trans (cz_mono (fun g hg=>hein _ g ((hB _ g).1 hg)) (hein j) hrf hrf fun x hx=>hx.mono fun g hg=>(hB _ g).1 hg) (m1_sz hI k3 ha hb hro hsm hs j j1 j4 f hf')
 ·intro j hj
  refine Nat.le_trans (cz_mono (fun g hg => ?_) (hI.eine ha hb j) ha ha fun x hx=>hx.mono fun g hg => ?_) (hI.sz' j (by omega))
  ·rcases List.mem_append.1 hg with h|h
   ·exact hI.ein _ g ((hlow j g (by omega)).1 h)
   ·rw [List.mem_singleton.1 h];exact ⟨ha.1,ha.2,hb.1,hb.2⟩
  ·rcases List.mem_append.1 hg with h|h
   ·exact List.mem_append_left _ ((hlow j g (by omega)).1 h)
   ·exact List.mem_append_right _ h
end
section
variable {n:Nat} {M:List Led} {e:Ed} {k:Nat} (hI:Inv n M e (k:Int)) (k3:(k:Int)<=3) (ha:0<=e.1/\e.1<n) (hb:0<=e.2/\e.2<n)
 {r o:Int} (hro:(r=e.1/\o=e.2)\/(r=e.2/\o=e.1)) (hsm:cz n (atE M k) r<=cz n (atE M k) o)
 {s:Int->Bool} (hs:∀x:Int,0<=x/\x<n->(s x=true↔Con (atE M k) r x))
include hI k3 ha hb hro hsm hs
theorem inv_some {M2 A B:List Led} {x:Led} (h1:M.map (f1 s k)=A++x::B) (h2:M2=(A.map fun y=>if p2L s k y=1 then rzL k y else y)++hzL x::B) (hx2:p2L s k x=2) (hgE:gE M2=gE M):WOk n M2:=by
 have hr:0<=r/\r<n:=by rcases hro with ⟨rfl,rfl⟩|⟨rfl,rfl⟩<;>assumption
 have hein:=m1_ein hI k3 ha hb hro hsm hs
 have hxt:x.2.2.2=false/\x.2.2.1=k/\¬(s x.1=false/\s x.2.1=false)/\¬(s x.1=true/\s x.2.1=true):=by
  unfold p2L at hx2
  split at hx2
  ·omega
  ·rename_i h
   split at hx2
   ·omega
   ·rename_i h'
    simp only [not_or] at h
    refine ⟨by simpa using h.1,?_,h.2.2,h'⟩
    apply Classical.byContradiction
    exact h.2.1
 obtain ⟨xt,xk,xs1,xs2⟩:=hxt
 have hxM:x∈M:=(m1_non k3 xt).1 (by rw [h1];exact List.mem_append_right _ (List.mem_cons_self ..))
 have hgr:grB n (gE M2)=true:=by rw [hgE];exact hI.gr
 -- the edges of the forests
 have hC:∀(j:Int) (f:Ed),f∈atE M2 j↔f∈atE (M.map (f1 s k)) j\/(f=(x.1,x.2.1)/\j<=k):=by
  intro j f
  rw [h1,h2,mem_atE,mem_atE]
  constructor
  ·rintro ⟨y',hy',ht,hl,he⟩
   rcases List.mem_append.1 hy' with hy'|hy'
   ·obtain ⟨y,hy,rfl⟩:=List.mem_map.1 hy'
    by_cases c:p2L s k y=1
    ·rw [if_pos c] at ht
     have ht':y.2.2.2=true:=ht
     unfold p2L at c
     rw [if_pos (.inl ht')] at c
     omega
    ·rw [if_neg c] at ht hl he
     exact .inl ⟨y,List.mem_append_left _ hy,ht,hl,he⟩
   ·rcases List.mem_cons.1 hy' with rfl|hy'
    ·exact .inr ⟨he.symm,by rw [<-xk];exact hl⟩
    ·exact .inl ⟨y',List.mem_append_right _ (List.mem_cons_of_mem _ hy'),ht,hl,he⟩
  ·rintro (⟨y,hy,ht,hl,he⟩|⟨he,hl⟩)
   ·rcases List.mem_append.1 hy with hy|hy
    ·refine ⟨y,List.mem_append_left _ (List.mem_map.2 ⟨y,hy,if_neg fun c => ?_⟩),ht,hl,he⟩
     unfold p2L at c
     rw [if_pos (.inl ht)] at c
     omega
    ·rcases List.mem_cons.1 hy with rfl|hy
     ·rw [xt] at ht;cases ht
     ·exact ⟨y,List.mem_append_right _ (List.mem_cons_of_mem _ hy),ht,hl,he⟩
   ·exact ⟨hzL x,List.mem_append_right _ (List.mem_cons_self ..),rfl,by show j<=x.2.2.1;omega,he.symm⟩
 have hup:∀(j:Int) (f:Ed),f∈atE M j->f∈atE M2 j:=fun j f h=>(hC j f).2 (.inl (m1_sub k3 h))
 have hnon:∀y,y∈M2->y.2.2.2=false->y∈M\/∃z,z∈M/\z.2.2.2=false/\p2L s k z=1/\y=rzL k z:=by
  intro y hy ht
  rw [h2] at hy
  rcases List.mem_append.1 hy with hy|hy
  ·obtain ⟨z,hz,rfl⟩:=List.mem_map.1 hy
   by_cases c:p2L s k z=1
   ·rw [if_pos c] at ht ⊢
    exact .inr ⟨z,(m1_non k3 (show z.2.2.2=false from ht)).1 (by rw [h1];exact List.mem_append_left _ hz),ht,c,rfl⟩
   ·rw [if_neg c] at ht ⊢
    exact .inl ((m1_non k3 ht).1 (by rw [h1];exact List.mem_append_left _ hz))
  ·rcases List.mem_cons.1 hy with rfl|hy
   ·cases ht
   ·exact .inl ((m1_non k3 ht).1 (by rw [h1];exact List.mem_append_right _ (List.mem_cons_of_mem _ hy)))
 have hrz:∀y:Led,(rzL k y).2.2.1=(k:Int)+1:=fun y=>by
  unfold rzL upL
  rw [if_neg (by omega)]
 -- the found one joins the two sides
 obtain ⟨x1r,x2r⟩:=hI.rg hxM
 have hlo:=hI.lo x hxM xt (by omega)
 rw [xk] at hlo
 have hsides:(Con (atE M k) x.1 r/\Con (atE M k) o x.2.1)\/(Con (atE M k) x.1 o/\Con (atE M k) r x.2.1):=by
  rcases (con_two hro).1 hlo with h|h|h
  ·exfalso
   by_cases c:s x.1=true
   ·exact xs2 ⟨c,(hs _ x2r).2 (((hs _ x1r).1 c).trans h)⟩
   ·refine xs1 ⟨by simpa using c,?_⟩
    cases h':s x.2.1 with
    | false=>rfl
    | true=>exact absurd ((hs _ x1r).2 (((hs _ x2r).1 h').trans h.symm)) c
  ·exact .inl h
  ·exact .inr h
 have hdown:∀{j:Int},j<=k->∀{u v:Int},Con (atE M k) u v->Con (atE M j) u v:=by
  intro j hj u v h
  exact h.mono (atE_mono hj)
 have hmono:∀{j:Int} {u v:Int},Con (atE M j) u v->Con (atE M2 j) u v:=fun h=>h.mono fun f hf=>hup _ f hf
 have hjoin:∀j:Int,j<=k->Con (atE M2 j) r o:=by
  intro j hj
  have hxx:Con (atE M2 j) x.1 x.2.1:=.of ((hC j _).2 (.inr ⟨rfl,hj⟩))
  rcases hsides with ⟨g1,g2⟩|⟨g1,g2⟩
  ·exact (hmono (hdown hj g1)).symm.trans (hxx.trans (hmono (hdown hj g2)).symm)
  ·exact (hmono (hdown hj g2)).trans (hxx.symm.trans (hmono (hdown hj g1)))
 have hrj:∀{j:Int},j<=k->∀{u v:Int},Con (atE M j++[e]) u v->Con (atE M2 j) u v:=by
  intro j hj u v h
  rcases (con_two hro).1 h with h|⟨g1,g2⟩|⟨g1,g2⟩
  ·exact hmono h
  ·exact (hmono g1).trans ((hjoin j hj).trans (hmono g2))
  ·exact (hmono g1).trans ((hjoin j hj).symm.trans (hmono g2))
 have hjr:∀{j:Int},j<=k->∀{u v:Int},Con (atE M2 j) u v->Con (atE M j++[e]) u v:=by
  intro j hj u v h
  refine h.sub fun f hf => ?_
  rcases (hC j f).1 hf with h|⟨rfl,_⟩
  ·exact .of (List.mem_append_left _ ((m1_ne k3 (by omega)).1 h))
  ·refine hlo.mono fun g hg => ?_
   rcases List.mem_append.1 hg with h|h
   ·exact List.mem_append_left _ (atE_mono hj g h)
   ·exact List.mem_append_right _ h
 refine ⟨hgr,?_,?_,?_,?_⟩
 ·intro y hy
  have hl1:=m1_lv k3 (s:=s) hI.lv (by omega)
  rw [h2] at hy
  rcases List.mem_append.1 hy with hy|hy
  ·obtain ⟨z,hz,rfl⟩:=List.mem_map.1 hy
   by_cases c:p2L s k z=1
   ·rw [if_pos c,hrz]
    omega
   ·rw [if_neg c]
    exact hl1 z (by rw [h1];exact List.mem_append_left _ hz)
  ·rcases List.mem_cons.1 hy with rfl|hy
   ·exact hI.lv x hxM
   ·exact hl1 y (by rw [h1];exact List.mem_append_right _ (List.mem_cons_of_mem _ hy))
 ·-- no ring
  have hno:¬Con (atE M 0) x.1 x.2.1:=by
   intro h
   refine hI.dis' ha hb hro 0 (by omega) ?_
   rcases hsides with ⟨g1,g2⟩|⟨g1,g2⟩
   ·exact (hdown (by omega) g1).symm.trans (h.trans (hdown (by omega) g2).symm)
   ·exact (hdown (by omega) g2).trans (h.symm.trans (hdown (by omega) g1))
  refine (nocyc_snoc hI.nc hno).sub fun f hf => ?_
  rcases (hC 0 f).1 hf with h|⟨rfl,_⟩
  ·exact List.mem_append_left _ ((m1_ne k3 (by omega)).1 h)
  ·exact List.mem_append_right _ (List.mem_singleton.2 rfl)
 ·intro y hy ht
  have hcon:Con (atE M2 y.2.2.1) y.1 y.2.1:=by
   rcases hnon y hy ht with hyM|⟨z,hz,hzt,c,rfl⟩
   ·by_cases hl:y.2.2.1<=k
    ·exact hrj hl (hI.lo y hyM ht hl)
    ·exact hmono (hI.hi y hyM ht (by omega))
   ·rw [hrz]
    obtain ⟨g1,g2⟩:=hI.rg hz
    have hc:s z.1=true/\s z.2.1=true:=by
     unfold p2L at c
     split at c
     ·omega
     ·split at c
      ·assumption
      ·omega
    have u1:=m1_up hI k3 ha hb hro hsm hs ((hs _ g1).1 hc.1)
    have u2:=m1_up hI k3 ha hb hro hsm hs ((hs _ g2).1 hc.2)
    exact (u1.symm.trans u2).mono fun f hf=>(hC _ f).2 (.inl hf)
  have hrg:=edB_in ((gr_e hgr).1 (y.1,y.2.1) (List.mem_map.2 ⟨y,hy,rfl⟩))
  exact (lbl_iff hgr _ ⟨hrg.1,hrg.2.1⟩ ⟨hrg.2.2.1,hrg.2.2.2.1⟩).2 hcon
 ·intro j j1 j4 f hf
  rw [cmp_cz]
  have he2:=gr_ein hgr j
  have hrf:0<=f.1/\f.1<n:=by
   have:=he2 f hf
   omega
  by_cases hj:(j:Int)<=k
  ·have h3:=hI.sz' j hj
   by_cases hc:Con (atE M j++[e]) f.1 e.1
   ·exact Nat.le_trans (cz_mono he2 (hI.eine ha hb j) hrf ha fun v hv=>hc.symm.trans (hjr hj hv)) h3
   ·have hce:∀{v:Int},Con (atE M j++[e]) f.1 v->Con (atE M j) f.1 v:=by
     intro v hv
     have hee:Con (atE M j++[e]) e.1 e.2:=.of (List.mem_append_right _ (List.mem_singleton.2 rfl))
     have hs':∀{u v:Int},Con (atE M j) u v->Con (atE M j++[e]) u v:=fun h=>h.mono fun g hg=>List.mem_append_left _ hg
     rcases (con_two (.inl ⟨rfl,rfl⟩)).1 hv with h|⟨g1,_⟩|⟨g1,_⟩
     ·exact h
     ·exact absurd (hs' g1) hc
     ·exact absurd ((hs' g1).trans hee.symm) hc
    have hfM:f∈atE M j:=by
     rcases (hC j f).1 hf with h|⟨rfl,_⟩
     ·exact (m1_ne k3 (by omega)).1 h
     ·exfalso
      have hee:Con (atE M j++[e]) r o:=by
       have h0:Con (atE M j++[e]) e.1 e.2:=.of (List.mem_append_right _ (List.mem_singleton.2 rfl))
       rcases hro with ⟨rfl,rfl⟩|⟨rfl,rfl⟩
       ·exact h0
       ·exact h0.symm
      have hs':∀{u v:Int},Con (atE M k) u v->Con (atE M j++[e]) u v:=fun h=>(hdown hj h).mono fun g hg=>List.mem_append_left _ hg
      have hxr:Con (atE M j++[e]) x.1 r:=by
       rcases hsides with ⟨g1,_⟩|⟨g1,_⟩
       ·exact hs' g1
       ·exact (hs' g1).trans hee.symm
      refine hc (hxr.trans ?_)
      rcases hro with ⟨rfl,rfl⟩|⟨rfl,rfl⟩
      ·exact .refl _
      ·exact hee
    exact Nat.le_trans (cz_mono he2 (hI.ein j) hrf hrf fun v hv=>hce (hjr hj hv)) (hI.sz j j1 j4 f hfM)
  ·have hf':f∈atE (M.map (f1 s k)) j:=by
    rcases (hC j f).1 hf with h|⟨_,h⟩
    ·exact h
    ·exact absurd h hj
   refine Nat.le_trans (cz_mono he2 (hein j) hrf hrf fun v hv=>hv.mono fun g hg => ?_) (m1_sz hI k3 ha hb hro hsm hs j j1 j4 f hf')
   rcases (hC j g).1 hg with h|⟨_,h⟩
   ·exact h
   ·exact absurd h hj
end
theorem sch_inv {n:Nat} {M:List Led} {e:Ed} {k:Nat} (hI:Inv n M e (k:Int)) (k3:(k:Int)<=3) (ha:0<=e.1/\e.1<n) (hb:0<=e.2/\e.2<n) :
  ((sch n M e k).2=none->Inv n (sch n M e k).1 e ((k:Int)-1))/\((sch n M e k).2≠none->WOk n (sch n M e k).1):=by
 have hgE:=sch_gE n M e (k:Int)
 -- the lesser side
 have hro:((if cmp n M k e.2<cmp n M k e.1 then e.2 else e.1)=e.1/\(if cmp n M k e.2<cmp n M k e.1 then e.1 else e.2)=e.2)\/((if cmp n M k e.2<cmp n M k e.1 then e.2 else e.1)=e.2/\(if cmp n M k e.2<cmp n M k e.1 then e.1 else e.2)=e.1):=by
  by_cases h:cmp n M k e.2<cmp n M k e.1
  ·rw [if_pos h,if_pos h];exact .inr ⟨rfl,rfl⟩
  ·rw [if_neg h,if_neg h];exact .inl ⟨rfl,rfl⟩
 have hsm:cz n (atE M k) (if cmp n M k e.2<cmp n M k e.1 then e.2 else e.1)<=cz n (atE M k) (if cmp n M k e.2<cmp n M k e.1 then e.1 else e.2):=by
  by_cases h:cmp n M k e.2<cmp n M k e.1
  ·rw [if_pos h,if_pos h];exact Nat.le_of_lt h
  ·rw [if_neg h,if_neg h];exact Nat.le_of_not_lt h
 have hlc:(if cmp n M k e.2<cmp n M k e.1 then lbl n M k e.2 else lbl n M k e.1)=lbl n M k (if cmp n M k e.2<cmp n M k e.1 then e.2 else e.1):=by
  by_cases h:cmp n M k e.2<cmp n M k e.1
  ·rw [if_pos h,if_pos h]
  ·rw [if_neg h,if_neg h]
 unfold sch at hgE ⊢
 simp only at hgE ⊢
 rw [hlc,lkw_no (p1_ne _ _)] at hgE ⊢
 generalize (if cmp n M k e.2<cmp n M k e.1 then e.2 else e.1)=r at hro hsm hgE ⊢
 generalize (if cmp n M k e.2<cmp n M k e.1 then e.1 else e.2)=o at hro hsm
 have hr:0<=r/\r<n:=by rcases hro with ⟨rfl,rfl⟩|⟨rfl,rfl⟩<;>assumption
 have hs:∀x:Int,0<=x/\x<n->((fun x=>decide (lbl n M k x=lbl n M k r)) x=true↔Con (atE M k) r x):=by
  intro x hx
  simp only [decide_eq_true_eq]
  rw [lbl_iff hI.gr _ hx hr]
  exact ⟨fun h=>h.symm,fun h=>h.symm⟩
 generalize (fun x=>decide (lbl n M k x=lbl n M k r))=s at hs hgE ⊢
 have hf1:(M.map fun y=>if p1L s k y=1 then rzL k y else y)=M.map (f1 s k):=rfl
 rw [hf1] at hgE ⊢
 simp only at hgE ⊢
 unfold lkw at hgE ⊢
 by_cases hlt:(M.map (f1 s k)).findIdx (fun y=>decide (p2L s k y=2))<(M.map (f1 s k)).length
 ·rw [dif_pos hlt] at hgE ⊢
  refine ⟨(fun h=>absurd h (by simp)),fun _ => ?_⟩
  have h2:=List.findIdx_getElem (w:=hlt)
  have hsp:M.map (f1 s k)=(M.map (f1 s k)).take ((M.map (f1 s k)).findIdx fun y=>decide (p2L s k y=2))++(M.map (f1 s k))[(M.map (f1 s k)).findIdx fun y=>decide (p2L s k y=2)]::(M.map (f1 s k)).drop ((M.map (f1 s k)).findIdx (fun y=>decide (p2L s k y=2))+1):=by
   conv=>lhs;rw [<-List.take_append_drop ((M.map (f1 s k)).findIdx fun y=>decide (p2L s k y=2)) (M.map (f1 s k)),List.drop_eq_getElem_cons hlt]
  exact inv_some hI k3 ha hb hro hsm hs hsp rfl (by simpa using h2) hgE
 ·rw [dif_neg hlt] at hgE ⊢
  refine ⟨fun _=>inv_none hI k3 ha hb hro hsm hs rfl (fun y hy h => ?_) hgE,fun h=>absurd rfl h⟩
  refine hlt (List.findIdx_lt_length_of_exists ⟨y,hy,by simpa using h⟩)
theorem tkRw_ok {n:Nat} {e:Ed} (ha:0<=e.1/\e.1<n) (hb:0<=e.2/\e.2<n):∀(k:Nat) (M:List Led),k<=4->Inv n M e ((k:Int)-1)->WOk n (tkRw n e k M).1/\gE (tkRw n e k M).1=gE M
 | 0,M,_,hI=>⟨hI.wok,rfl⟩
 | k+1,M,hk,hI=>by
  have hlev:((k+1:Nat):Int)-1=(k:Int):=by omega
  rw [hlev] at hI
  obtain ⟨h1,h2⟩:=sch_inv hI (by omega) ha hb
  unfold tkRw
  split
  ·rename_i hn
   obtain ⟨g1,g2⟩:=tkRw_ok ha hb k _ (by omega) (h1 hn)
   exact ⟨g1,g2.trans (sch_gE ..)⟩
  ·rename_i hn
   exact ⟨h2 (by rw [hn];simp),sch_gE ..⟩
theorem gE_filter (L:List Led) (p:Ed->Bool):gE (L.filter fun y=>p (y.1,y.2.1))=(gE L).filter p:=by
 unfold gE
 rw [List.filter_map]
 rfl
theorem gE_inj:∀{L:List Led},(gE L).Nodup->∀{y z:Led},y∈L->z∈L->(y.1,y.2.1)=(z.1,z.2.1)->y=z
 | [],_,y,z,hy,_,_=>by cases hy
 | x::L,hn,y,z,hy,hz,he=>by
  have hn':((x.1,x.2.1)::gE L).Nodup:=hn
  rw [List.nodup_cons] at hn'
  rcases List.mem_cons.1 hy with rfl|hy'
  ·rcases List.mem_cons.1 hz with rfl|hz'
   ·rfl
   ·exact absurd (List.mem_map.2 ⟨z,hz',he.symm⟩) hn'.1
  ·rcases List.mem_cons.1 hz with rfl|hz'
   ·exact absurd (List.mem_map.2 ⟨y,hy',he⟩) hn'.1
   ·exact gE_inj hn'.2 hy' hz' he
def allE:List Ed:=(List.range 12).flatMap fun (b:Nat)=>(List.range b).map fun (a:Nat)=>((a:Int),(b:Int))
theorem allE_len:allE.length=66:=by decide
theorem gr_len {n:Nat} {es:List Ed} (h:GrOk n es):es.length<=66:=by
 rw [<-allE_len]
 refine nodup_sub _ _ (srt_nodup h.2.2.1) fun x hx => ?_
 have:=edB_in (h.2.2.2 x hx)
 have h12:=h.2.1
 unfold allE
 rw [List.mem_flatMap]
 refine ⟨x.2.toNat,List.mem_range.2 (by omega),List.mem_map.2 ⟨x.1.toNat,List.mem_range.2 (by omega),?_⟩⟩
 rw [Int.toNat_of_nonneg (by omega),Int.toNat_of_nonneg (by omega)]
theorem gr_of {n:Nat} {es:List Ed} (h:GrOk n es):grB n es=true:=by
 unfold grB
 rw [show inB (n:Int) 1 12=true from inB_t.2 (by have:=h.1;have:=h.2.1;omega),eOk_of h (gr_len h)]
 rfl
theorem of_gr {n:Nat} {es:List Ed} (h:grB n es=true) (h2:2<=n):GrOk n es:=by
 unfold grB at h
 rw [Bool.and_eq_true,inB_t] at h
 obtain ⟨h3,h4,_⟩:=eOk_srt h.2
 exact ⟨by omega,by omega,h4,h3⟩
theorem WOk.con {n:Nat} {L:List Led} (hw:WOk n L) {y:Led} (hy:y∈L) (ht:y.2.2.2=false):Con (atE L y.2.2.1) y.1 y.2.1:=by
 have hr:=edB_in ((gr_e hw.gr).1 (y.1,y.2.1) (List.mem_map.2 ⟨y,hy,rfl⟩))
 exact (lbl_iff hw.gr _ ⟨hr.1,hr.2.1⟩ ⟨hr.2.2.1,hr.2.2.2.1⟩).1 (hw.un y hy ht)
theorem WOk.same {n:Nat} {L:List Led} (hw:WOk n L) (u v:Int):Con (atE L 0) u v↔Con (gE L) u v:=by
 constructor
 ·intro h
  exact h.mono fun e he=>(atE_sub L 0).subset he
 ·intro h
  refine h.sub fun e he => ?_
  obtain ⟨y,hy,rfl⟩:=List.mem_map.1 he
  have hl:=(hw.lv y hy).1
  cases ht:y.2.2.2 with
  | true=>exact .of (mem_atE.2 ⟨y,hy,ht,hl,rfl⟩)
  | false=>exact (hw.con hy ht).mono (atE_mono hl)
theorem WOk.labs {n:Nat} {L:List Led} (hw:WOk n L):labs n (atE L 0)=labs n (gE L):=by
 have hE:EIn n (gE L):=fun e he=>by
  have:=edB_in ((gr_e hw.gr).1 e he)
  exact ⟨this.1,this.2.1,this.2.2.1,this.2.2.2.1⟩
 exact (labs_ok (gr_ein hw.gr 0)).uniq (labs_ok hE) hw.same
section
variable {n:Nat} {L:List Led} (hw:WOk n L) {e:Ed}
include hw
theorem take_right {old:Led} (ho:old∈L) (hoe:(old.1,old.2.1)=e) :
  WOk n (if old.2.2.2=true then (tkRw n e (old.2.2.1.toNat+1) (L.filter fun y=>decide ((y.1,y.2.1)≠e))).1 else L.filter fun y=>decide ((y.1,y.2.1)≠e)) /\
  gE (if old.2.2.2=true then (tkRw n e (old.2.2.1.toNat+1) (L.filter fun y=>decide ((y.1,y.2.1)≠e))).1 else L.filter fun y=>decide ((y.1,y.2.1)≠e))=del (gE L) e:=by
 have hin:e∈gE L:=List.mem_map.2 ⟨old,ho,hoe⟩
 obtain ⟨hgE,hgn,hL6⟩:=gr_e hw.gr
 have her:=edB_in (hgE e hin)
 have hgR:gE (L.filter fun y=>decide ((y.1,y.2.1)≠e))=del (gE L) e:=by
  rw [gE_filter L fun y=>decide (y≠e)]
  unfold del
  congr 1
  funext y
  rw [decide_not]
 have hG:=of_gr hw.gr (by omega)
 have hgr:grB n (gE (L.filter fun y=>decide ((y.1,y.2.1)≠e)))=true:=by
  rw [hgR]
  exact gr_of hG.del
 have hm:∀y,y∈(L.filter fun y=>decide ((y.1,y.2.1)≠e))↔y∈L/\(y.1,y.2.1)≠e:=fun y=>by
  rw [List.mem_filter,decide_eq_true_eq]
 have hsub:∀(j:Int) (f:Ed),f∈atE (L.filter fun y=>decide ((y.1,y.2.1)≠e)) j->f∈atE L j:=by
  intro j f hf
  obtain ⟨y,hy,ht,hl,he⟩:=mem_atE.1 hf
  exact mem_atE.2 ⟨y,((hm y).1 hy).1,ht,hl,he⟩
 have hne:∀(j:Int) (f:Ed),f∈atE (L.filter fun y=>decide ((y.1,y.2.1)≠e)) j->f≠e:=by
  intro j f hf
  obtain ⟨y,hy,ht,hl,he⟩:=mem_atE.1 hf
  rw [<-he]
  exact ((hm y).1 hy).2
 have hback:∀(j:Int) (f:Ed),f∈atE L j->f≠e->f∈atE (L.filter fun y=>decide ((y.1,y.2.1)≠e)) j:=by
  intro j f hf hfe
  obtain ⟨y,hy,ht,hl,he⟩:=mem_atE.1 hf
  exact mem_atE.2 ⟨y,(hm y).2 ⟨hy,by rw [he];exact hfe⟩,ht,hl,he⟩
 have hold:∀j:Int,e∈atE L j->old.2.2.2=true/\j<=old.2.2.1:=by
  intro j hf
  obtain ⟨y,hy,ht,hl,he⟩:=mem_atE.1 hf
  have:=gE_inj hgn hy ho (he.trans hoe.symm)
  subst this
  exact ⟨ht,hl⟩
 generalize hR:(L.filter fun y=>decide ((y.1,y.2.1)≠e))=R at *
 have hnc:NoCyc (atE R 0):=hw.nc.sub fun f hf=>hsub 0 f hf
 have hsz:∀j:Nat,1<=j->j<=4->∀f,f∈atE R j->cz n (atE R j) f.1<=n / 2 ^ j:=by
  intro j j1 j4 f hf
  have hrf:=gr_ein hgr j f hf
  exact Nat.le_trans (cz_mono (gr_ein hgr j) (gr_ein hw.gr j) ⟨hrf.1,hrf.2.1⟩ ⟨hrf.1,hrf.2.1⟩ fun x hx=>hx.mono fun g hg=>hsub j g hg) (hw.sz j j1 j4 f (hsub j f hf))
 cases ht:old.2.2.2 with
 | false=>
  rw [if_neg (by simp)]
  refine ⟨⟨hgr,fun x hx=>hw.lv x ((hm x).1 hx).1,hnc,fun x hx hxt => ?_,hsz⟩,hgR⟩
  have hr:=edB_in ((gr_e hgr).1 (x.1,x.2.1) (List.mem_map.2 ⟨x,hx,rfl⟩))
  refine (lbl_iff hgr _ ⟨hr.1,hr.2.1⟩ ⟨hr.2.2.1,hr.2.2.2.1⟩).2 ((hw.con ((hm x).1 hx).1 hxt).mono fun f hf=>hback _ f hf ?_)
  rintro rfl
  have:=(hold _ hf).1
  rw [ht] at this
  cases this
 | true=>
  rw [if_pos rfl]
  have hlv:=hw.lv old ho
  have heat:∀j:Int,j<=old.2.2.1->e∈atE L j:=fun j hj=>mem_atE.2 ⟨old,ho,ht,hj,hoe⟩
  have h3:old.2.2.1<=3:=by
   apply Classical.byContradiction
   intro hno
   have h4:=hw.sz 4 (by omega) (by omega) e (heat _ (by omega))
   rw [cmp_cz] at h4
   have h5:=cz_pos (gr_ein hw.gr ((4:Nat):Int)) (v:=e.1) ⟨her.1,her.2.1⟩
   have h6:=(gr_n hw.gr).2
   have:n / 2 ^ 4=0:=Nat.div_eq_of_lt (by omega)
   omega
  have hI:Inv n R e (old.2.2.1.toNat:Int):=by
   rw [Int.toNat_of_nonneg hlv.1]
   refine ⟨hgr,fun x hx=>hw.lv x ((hm x).1 hx).1,hnc,fun h => ?_,fun x hx hxt hk => ?_,fun x hx hxt hk => ?_,hsz,fun j hj => ?_⟩
   ·exact hw.nc e (heat 0 hlv.1) (h.mono fun f hf=>mem_mE.2 ⟨hsub 0 f hf,hne 0 f hf⟩)
   ·refine (hw.con ((hm x).1 hx).1 hxt).mono fun f hf=>hback _ f hf ?_
    rintro rfl
    have:=(hold _ hf).2
    omega
   ·refine (hw.con ((hm x).1 hx).1 hxt).mono fun f hf => ?_
    by_cases hfe:f=e
    ·exact List.mem_append_right _ (List.mem_singleton.2 hfe)
    ·exact List.mem_append_left _ (hback _ f hf hfe)
   ·have h1:cz n (atE R j++[e]) e.1<=cz n (atE L j) e.1:=by
     refine cz_mono (fun f hf => ?_) (gr_ein hw.gr j) ⟨her.1,her.2.1⟩ ⟨her.1,her.2.1⟩ fun x hx=>hx.mono fun f hf => ?_
     ·rcases List.mem_append.1 hf with h|h
      ·exact gr_ein hgr j f h
      ·rw [List.mem_singleton.1 h];exact ⟨her.1,her.2.1,her.2.2.1,her.2.2.2.1⟩
     ·rcases List.mem_append.1 hf with h|h
      ·exact hsub j f h
      ·rw [List.mem_singleton.1 h];exact heat j hj
    by_cases j0:j=0
    ·subst j0
     have:=cz_le n (atE R ((0:Nat):Int)++[e]) e.1
     simpa using this
    ·exact Nat.le_trans h1 (hw.sz j (by omega) (by omega) e (heat j hj))
  have:=tkRw_ok (n:=n) (e:=e) ⟨her.1,her.2.1⟩ ⟨her.2.2.1,her.2.2.2.1⟩ (old.2.2.1.toNat+1) R (by omega) (by rw [show ((old.2.2.1.toNat+1:Nat):Int)-1=(old.2.2.1.toNat:Int) from by omega];exact hI)
  exact ⟨this.1,this.2.trans hgR⟩
theorem add_right (he:edB n e=true) (hne:e∉gE L) :
  WOk n (L.filter (fun y=>lsB (y.1,y.2.1) e)++[(e.1,e.2,0,!decide (lbl n L 0 e.1=lbl n L 0 e.2))]++L.filter (fun y=>lsB e (y.1,y.2.1))) /\
  gE (L.filter (fun y=>lsB (y.1,y.2.1) e)++[(e.1,e.2,0,!decide (lbl n L 0 e.1=lbl n L 0 e.2))]++L.filter (fun y=>lsB e (y.1,y.2.1)))=ins (gE L) e:=by
 have her:=edB_in he
 have hG:=of_gr hw.gr (by omega)
 have hgR:gE (L.filter (fun y=>lsB (y.1,y.2.1) e)++[(e.1,e.2,0,!decide (lbl n L 0 e.1=lbl n L 0 e.2))]++L.filter (fun y=>lsB e (y.1,y.2.1)))=ins (gE L) e:=by
  have h1:=gE_filter L fun y=>lsB y e
  have h2:=gE_filter L fun y=>lsB e y
  unfold ins
  rw [<-h1,<-h2]
  unfold gE
  simp only [List.map_append,List.map_cons,List.map_nil]
 have hm:∀y,y∈(L.filter (fun y=>lsB (y.1,y.2.1) e)++[(e.1,e.2,0,!decide (lbl n L 0 e.1=lbl n L 0 e.2))]++L.filter (fun y=>lsB e (y.1,y.2.1)))↔y=(e.1,e.2,0,!decide (lbl n L 0 e.1=lbl n L 0 e.2))\/y∈L:=by
  intro y
  simp only [List.mem_append,List.mem_filter,List.mem_singleton]
  constructor
  ·rintro ((h|h)|h)
   ·exact .inr h.1
   ·exact .inl h
   ·exact .inr h.1
  ·rintro (h|h)
   ·exact .inl (.inr h)
   ·cases h1:lsB (y.1,y.2.1) e with
    | true=>exact .inl (.inl ⟨h,rfl⟩)
    | false=>
     cases h2:lsB e (y.1,y.2.1) with
     | true=>exact .inr ⟨h,rfl⟩
     | false=>exact absurd (List.mem_map.2 ⟨y,h,lsB_tri h1 h2⟩) hne
 have hgr:grB n (gE (L.filter (fun y=>lsB (y.1,y.2.1) e)++[(e.1,e.2,0,!decide (lbl n L 0 e.1=lbl n L 0 e.2))]++L.filter (fun y=>lsB e (y.1,y.2.1))))=true:=by
  rw [hgR]
  exact gr_of (hG.ins he)
 generalize (L.filter (fun y=>lsB (y.1,y.2.1) e)++[(e.1,e.2,0,!decide (lbl n L 0 e.1=lbl n L 0 e.2))]++L.filter (fun y=>lsB e (y.1,y.2.1)))=R at hgR hm hgr ⊢
 have hat:∀(j:Int) (f:Ed),f∈atE R j↔f∈atE L j\/(f=e/\lbl n L 0 e.1≠lbl n L 0 e.2/\j<=0):=by
  intro j f
  rw [mem_atE,mem_atE]
  constructor
  ·rintro ⟨y,hy,ht,hl,hf⟩
   rcases (hm y).1 hy with rfl|hy
   ·simp only [Bool.not_eq_true',decide_eq_false_iff_not] at ht hl hf
    exact .inr ⟨hf.symm,ht,hl⟩
   ·exact .inl ⟨y,hy,ht,hl,hf⟩
  ·rintro (⟨y,hy,ht,hl,hf⟩|⟨rfl,ht,hl⟩)
   ·exact ⟨y,(hm y).2 (.inr hy),ht,hl,hf⟩
   ·exact ⟨_,(hm _).2 (.inl rfl),by simp [ht],hl,rfl⟩
 have hcl:=lbl_iff hw.gr 0 (u:=e.1) (v:=e.2) ⟨her.1,her.2.1⟩ ⟨her.2.2.1,her.2.2.2.1⟩
 refine ⟨⟨hgr,fun x hx => ?_,?_,fun x hx hxt => ?_,fun j j1 j4 f hf => ?_⟩,hgR⟩
 ·rcases (hm x).1 hx with rfl|hx
  ·simp
  ·exact hw.lv x hx
 ·by_cases hc:lbl n L 0 e.1=lbl n L 0 e.2
  ·refine hw.nc.sub fun f hf => ?_
   rcases (hat 0 f).1 hf with h|h
   ·exact h
   ·exact absurd hc h.2.1
  ·refine (nocyc_snoc hw.nc (fun h=>hc (hcl.2 h))).sub fun f hf => ?_
   rcases (hat 0 f).1 hf with h|h
   ·exact List.mem_append_left _ h
   ·exact List.mem_append_right _ (List.mem_singleton.2 h.1)
 ·have hr:=edB_in ((gr_e hgr).1 (x.1,x.2.1) (List.mem_map.2 ⟨x,hx,rfl⟩))
  refine (lbl_iff hgr _ ⟨hr.1,hr.2.1⟩ ⟨hr.2.2.1,hr.2.2.2.1⟩).2 ?_
  rcases (hm x).1 hx with rfl|hx
  ·simp only [Bool.not_eq_false',decide_eq_true_eq] at hxt
   exact (hcl.1 hxt).mono fun f hf=>(hat 0 f).2 (.inl hf)
  ·exact (hw.con hx hxt).mono fun f hf=>(hat _ f).2 (.inl hf)
 ·have hf':f∈atE L j:=by
   rcases (hat j f).1 hf with h|h
   ·exact h
   ·have:=h.2.2;omega
  have hrf:=gr_ein hgr j f hf
  rw [cmp_cz]
  refine Nat.le_trans (cz_mono (gr_ein hgr j) (gr_ein hw.gr j) ⟨hrf.1,hrf.2.1⟩ ⟨hrf.1,hrf.2.1⟩ fun x hx=>hx.mono fun g hg => ?_) (hw.sz j j1 j4 f hf')
  rcases (hat j g).1 hg with h|h
  ·exact h
  ·have:=h.2.2;omega
end
theorem lb_labs {n:Nat} {E:List Ed} (h:EIn n E):lbOk (n:Int) (labs n E)=true:=by
 have hL:=labs_ok h
 unfold lbOk
 rw [if_pos (by rw [labs_len]),if_pos]
 intro i hi
 have hg:=List.getElem?_eq_getElem hi
 unfold lbP
 rw [hg]
 simp only
 have h1:=hL.le hg
 have h2:=hL.lt hg
 rw [hL.self hg,inB_t.2 (by omega)]
 simp
theorem wt_right {n:Nat} {L:List Led} (hw:WOk n L) {y:Ed} (hy:y∈gE L):(WT ((n:Int),L) y).1=n/\(WT ((n:Int),L) y).2.2.2.2.2=true/\WOk n (WT ((n:Int),L) y).2.1/\gE (WT ((n:Int),L) y).2.1=del (gE L) y:=by
 have hL6:=(gr_e hw.gr).2.2
 obtain ⟨r,h1,_,_,_,h5⟩:=w_WebTake n L y (by omega)
 have hr:WT ((n:Int),L) y=r:=by unfold WT;rw [h1];rfl
 rw [hr]
 obtain ⟨old,o1,o2,o3,o4,o5⟩:=h5 ⟨by omega,by rw [Int.toNat_natCast];exact hw,hy⟩
 rw [Int.toNat_natCast] at o5
 have:=take_right hw o1 o2
 rw [<-o5] at this
 exact ⟨o3,o4,this.1,this.2⟩
theorem wa_right {n:Nat} {L:List Led} (hw:WOk n L) {y:Ed} (he:edB n y=true) (hy:y∉gE L):(WA ((n:Int),L) y).1=n/\(WA ((n:Int),L) y).2.2=true/\WOk n (WA ((n:Int),L) y).2.1/\gE (WA ((n:Int),L) y).2.1=ins (gE L) y:=by
 have hL6:=(gr_e hw.gr).2.2
 obtain ⟨r,h1,_,_,_,h5⟩:=w_WebAdd n L y (by omega)
 have hr:WA ((n:Int),L) y=r:=by unfold WA;rw [h1];rfl
 have h6:=h5 ⟨by omega,by rw [Int.toNat_natCast];exact hw,he,hy⟩
 rw [Int.toNat_natCast] at h6
 rw [hr,h6]
 exact ⟨rfl,rfl,add_right hw he hy⟩
theorem wt_bad {n:Nat} {L:List Led} (hw:WOk n L) {y:Ed} (hy:y∉gE L):(WT ((n:Int),L) y).2.2.2.2.2=false:=by
 have hL6:=(gr_e hw.gr).2.2
 obtain ⟨r,h1,_,_,h5,_⟩:=w_WebTake n L y (by omega)
 have hr:WT ((n:Int),L) y=r:=by unfold WT;rw [h1];rfl
 rw [hr,h5 (fun h=>hy h.2.2)]
theorem wa_bad {n:Nat} {L:List Led} (hw:WOk n L) {y:Ed} (hy:y∈gE L):(WA ((n:Int),L) y).2.2=false:=by
 have hL6:=(gr_e hw.gr).2.2
 obtain ⟨r,h1,_,_,h5,_⟩:=w_WebAdd n L y (by omega)
 have hr:WA ((n:Int),L) y=r:=by unfold WA;rw [h1];rfl
 rw [hr,h5 (fun h=>h.2.2.2 hy)]
def atV (v:Int) (y:Ed):Bool:=decide (y.1=v\/y.2=v)
theorem reS_right {n:Nat} (v:Int):∀(es:List Ed) (L:List Led) (out:List Ed),WOk n L->es.Nodup->(∀y,y∈es->y∈gE L) ->
  (es.foldl (reS v) (((n:Int),L),out)).1.1=n/\WOk n (es.foldl (reS v) (((n:Int),L),out)).1.2/\(∀x,x∈gE (es.foldl (reS v) (((n:Int),L),out)).1.2↔x∈gE L/\¬(x∈es/\atV v x=true))/\(es.foldl (reS v) (((n:Int),L),out)).2=out++es.filter (atV v)
 | [],L,out,hw,_,_=>by simp [hw]
 | y::es,L,out,hw,hn,hin=>by
  rw [List.nodup_cons] at hn
  rw [List.foldl_cons]
  by_cases hc:y.1=v\/y.2=v
  ·have hs:reS v (((n:Int),L),out) y=(((WT ((n:Int),L) y).1,(WT ((n:Int),L) y).2.1),out++[y]):=by unfold reS;rw [if_pos hc]
   obtain ⟨t1,_,t3,t4⟩:=wt_right hw (hin y (List.mem_cons_self ..))
   rw [hs,t1]
   obtain ⟨g1,g2,g3,g4⟩:=reS_right v es (WT ((n:Int),L) y).2.1 (out++[y]) t3 hn.2 (fun z hz=>by
    rw [t4,del_mem]
    exact ⟨hin z (List.mem_cons_of_mem _ hz),by rintro rfl;exact hn.1 hz⟩)
   refine ⟨g1,g2,fun x => ?_,?_⟩
   ·rw [g3,t4,del_mem,List.mem_cons]
    constructor
    ·rintro ⟨⟨h1,h2⟩,h3⟩
     refine ⟨h1,?_⟩
     rintro ⟨rfl|h4,h5⟩
     ·exact h2 rfl
     ·exact h3 ⟨h4,h5⟩
    ·rintro ⟨h1,h2⟩
     refine ⟨⟨h1,?_⟩,fun h=>h2 ⟨.inr h.1,h.2⟩⟩
     rintro rfl
     exact h2 ⟨.inl rfl,by unfold atV;rw [decide_eq_true hc]⟩
   ·rw [g4,List.filter_cons_of_pos (by unfold atV;rw [decide_eq_true hc]),List.append_assoc]
    rfl
  ·have hs:reS v (((n:Int),L),out) y=(((n:Int),L),out):=by unfold reS;rw [if_neg hc]
   rw [hs]
   obtain ⟨g1,g2,g3,g4⟩:=reS_right v es L out hw hn.2 (fun z hz=>hin z (List.mem_cons_of_mem _ hz))
   have hat:¬atV v y=true:=by unfold atV;rw [decide_eq_false hc];simp
   refine ⟨g1,g2,fun x => ?_,?_⟩
   ·rw [g3,List.mem_cons]
    constructor
    ·rintro ⟨h1,h2⟩
     refine ⟨h1,?_⟩
     rintro ⟨rfl|h4,h5⟩
     ·exact hat h5
     ·exact h2 ⟨h4,h5⟩
    ·rintro ⟨h1,h2⟩
     exact ⟨h1,fun h=>h2 ⟨.inr h.1,h.2⟩⟩
   ·rw [g4,List.filter_cons_of_neg hat]
theorem reS_none (v:Int):∀(es:List Ed) (s:Wb × List Ed),es.filter (atV v)=[]->es.foldl (reS v) s=s
 | [],s,_=>rfl
 | y::es,s,h=>by
  have hat:¬atV v y=true:=fun hh=>by
   rw [List.filter_cons_of_pos hh] at h
   cases h
  rw [List.filter_cons_of_neg hat] at h
  have hs:reS v s y=s:=by
   unfold reS
   rw [if_neg]
   intro hc
   exact hat (by unfold atV;rw [decide_eq_true hc])
  rw [List.foldl_cons,hs]
  exact reS_none v es s h
theorem acS_right {n:Nat}:∀(es:List Ed) (L:List Led) (b:Bool),WOk n L->(∀y,y∈es->edB n y=true) ->
  (es.foldl acS (((n:Int),L),b)).1.1=n/\WOk n (es.foldl acS (((n:Int),L),b)).1.2/\(∀x,x∈gE (es.foldl acS (((n:Int),L),b)).1.2↔x∈gE L\/x∈es)/\(es.Nodup->(∀y,y∈es->y∉gE L)->(es.foldl acS (((n:Int),L),b)).2=b)
 | [],L,b,hw,_=>by simp [hw]
 | y::es,L,b,hw,he=>by
  rw [List.foldl_cons]
  have he':∀z,z∈es->edB n z=true:=fun z hz=>he z (List.mem_cons_of_mem _ hz)
  by_cases hy:y∈gE L
  ·have hb:=wa_bad hw hy
   have hs:acS (((n:Int),L),b) y=(((n:Int),L),false):=by
    unfold acS
    simp only [hb,Bool.false_eq_true,if_false,Bool.and_false]
   rw [hs]
   obtain ⟨g1,g2,g3,g4⟩:=acS_right es L false hw he'
   refine ⟨g1,g2,fun x => ?_,fun _ h=>absurd hy (h y (List.mem_cons_self ..))⟩
   rw [g3,List.mem_cons]
   constructor
   ·rintro (h|h)
    ·exact .inl h
    ·exact .inr (.inr h)
   ·rintro (h|rfl|h)
    ·exact .inl h
    ·exact .inl hy
    ·exact .inr h
  ·obtain ⟨t1,t2,t3,t4⟩:=wa_right hw (he y (List.mem_cons_self ..)) hy
   have hs:acS (((n:Int),L),b) y=(((n:Int),(WA ((n:Int),L) y).2.1),b):=by
    unfold acS
    simp only [t2,if_true,Bool.and_true]
    rw [t1]
   rw [hs]
   obtain ⟨g1,g2,g3,g4⟩:=acS_right es _ b t3 he'
   refine ⟨g1,g2,fun x => ?_,fun hn h => ?_⟩
   ·rw [g3,t4,ins_mem,List.mem_cons]
    constructor
    ·rintro ((h|h)|h)
     ·exact .inr (.inl h)
     ·exact .inl h
     ·exact .inr (.inr h)
    ·rintro (h|h|h)
     ·exact .inl (.inr h)
     ·exact .inl (.inl h)
     ·exact .inr h
   ·rw [List.nodup_cons] at hn
    refine g4 hn.2 fun z hz hzi => ?_
    rw [t4,ins_mem] at hzi
    rcases hzi with rfl|hzi
    ·exact hn.1 hz
    ·exact h z (List.mem_cons_of_mem _ hz) hzi
structure ShR (x0:Int) (n:Nat) (L:List Led) (y:An):Prop where
 id:1<=x0/\x0<=3
 web:WOk n L
 an:blA y=true\/ansB n y=true/\y.2.2.2=labs n (atE L 0)
theorem ShR.len {x0:Int} {n:Nat} {L:List Led} {y:An} (h:ShR x0 n L y):L.length<=66/\y.2.2.1.length<=66/\y.2.2.2.length<=12/\0<=y.1/\y.1<=100000:=by
 have h1:=(gr_e h.web.gr).2.2
 have h12:=(gr_n h.web.gr).2
 rcases h.an with hb|⟨ha,hl⟩
 ·unfold blA at hb
  simp only [Bool.and_eq_true,Bool.not_eq_true',decide_eq_true_eq] at hb
  omega
 ·unfold ansB at ha
  simp only [Bool.and_eq_true] at ha
  have h2:=inB_t.1 ha.2.1
  have h3:=eOk_len ha.2.2.1
  rw [hl,labs_len]
  omega
theorem ShR.ok {x0:Int} {n:Nat} {L:List Led} {y:An} (h:ShR x0 n L y):g_iShardOk (x0,(n:Int),L,y)=some (true,())/\g_sShardOk (x0,(n:Int),L,y)=some (true,()):=by
 have hl:=h.len
 obtain ⟨b,b1,b2,b3⟩:=h_ShardOk x0 n L y (by omega) (by omega) (by omega)
 have:b=true:=b3.2 ⟨h.id,by omega,by rw [Int.toNat_natCast];exact h.web,by rw [Int.toNat_natCast];exact h.an⟩
 rw [this] at b1 b2
 exact ⟨b1,b2⟩
def rejO:Int × Int × List Led × Int × Bool × List Ed × List Int × Int × Bool × List Ed × List Int × Int:=((0:Int),(0:Int),[],(0:Int),false,[],[],(0:Int),false,[],[],(1:Int))
def accO (x0:Int) (n:Int) (L:List Led) (y:An):Int × Int × List Led × Int × Bool × List Ed × List Int × Int × Bool × List Ed × List Int × Int:=(x0,n,L,y.1,y.2.1,y.2.2.1,y.2.2.2,y.1,y.2.1,y.2.2.1,y.2.2.2,(0:Int))
structure Dne (n:Nat) (L L':List Led) (o:Or') (y:An):Prop where
 num:y.1=o.1
 lab:y.2.2.2=labs n (atE L' 0)
 add:o.2.1=1\/o.2.1=4->(∀x,x∈gE L'↔x∈gE L\/x∈o.2.2.1)/\((∀z,z∈o.2.2.1->z∉gE L)->y.2.1=true)/\y.2.2.1=[]/\∀e,o.2.2.1=[e]->y.2.1 = !decide (e∈gE L)
 take:o.2.1=2->∃e,o.2.2.1=[e]/\gE L'=del (gE L) e/\y.2.1=decide (e∈gE L)/\y.2.2.1=[]
 rel:o.2.1=3->(∀x,x∈gE L'↔x∈gE L/\atV o.2.2.2 x=false)/\y.2.1=true/\y.2.2.1=(gE L).filter (atV o.2.2.2)/\(y.2.2.1=[]->L'=L)
theorem obey_right {x0 : Int} {n : Nat} {L : List Led} {y : An} (h : ShR x0 n L y) (o : Or') (ho : o.2.2.1.length ≤ 1048576) :
    (g_iObey ((x0, (n : Int), L, y), o) = some (rejO, ()) ∧ g_sObey ((x0, (n : Int), L, y), o) = some (rejO, ()) ∧ (ordB n o = false ∨ (o.1 ≠ y.1 ∧ o.1 ≠ y.1 + 1))) ∨
    (g_iObey ((x0, (n : Int), L, y), o) = some (accO x0 n L y, ()) ∧ g_sObey ((x0, (n : Int), L, y), o) = some (accO x0 n L y, ()) ∧ ordB n o = true ∧ o.1 = y.1) ∨
    (ordB n o = true ∧ o.1 = y.1 + 1 ∧ ∃ (L' : List Led) (z : An), g_iObey ((x0, (n : Int), L, y), o) = some (accO x0 n L' z, ()) ∧ g_sObey ((x0, (n : Int), L, y), o) = some (accO x0 n L' z, ()) ∧ ShR x0 n L' z ∧ Dne n L L' o z) := by
  obtain ⟨b1, b2⟩ := h.ok
  obtain ⟨hL, h1, h2, hy0, hy1⟩ := h.len
  have hO1 := h_iOrderOk n o ho
  have hO2 := h_sOrderOk n o ho
  have hg := h.web.gr
  have hn12 := gr_n hg
  have e1 := e_iObey BIG (x0, (n : Int), L, y) o
  have e2 := e_sObey BIG (x0, (n : Int), L, y) o
  have f1 : f_iObey BIG ((x0, (n : Int), L, y), o) = g_iObey ((x0, (n : Int), L, y), o) := rfl
  have f2 : f_sObey BIG ((x0, (n : Int), L, y), o) = g_sObey ((x0, (n : Int), L, y), o) := rfl
  rw [f1] at e1
  rw [f2] at e2
  rw [b1, Option.bind_some] at e1
  rw [b2, Option.bind_some] at e2
  simp only [Bool.not_true, cond_false, hO1, hO2, Option.bind_some] at e1 e2
  cases hob : ordB n o with
  | false =>
    rw [hob] at e1 e2
    exact .inl ⟨e1, e2, .inl rfl⟩
  | true =>
    rw [hob] at e1 e2
    simp only [Bool.not_true, cond_false] at e1 e2
    by_cases hn : o.1 = y.1
    · rw [decide_eq_true hn, h_icopyShard x0 n L y (by omega) (by omega) (by omega), h_icopyAnswer y (by omega) (by omega)] at e1
      rw [decide_eq_true hn, h_sl10Copy x0 n L y (by omega) (by omega) (by omega), h_sl09CopyAnswer y (by omega) (by omega)] at e2
      exact .inr (.inl ⟨e1, e2, rfl, hn⟩)
    · rw [decide_eq_false hn, wr (n := y.1 + 1) (by omega) (by omega)] at e1 e2
      simp only [Bool.not_false, cond_true, Option.bind_some, cond_false] at e1 e2
      by_cases hw : o.1 = y.1 + 1
      case neg =>
        rw [decide_eq_false hw] at e1 e2
        exact .inl ⟨e1, e2, .inr ⟨hn, hw⟩⟩
      rw [decide_eq_true hw] at e1 e2
      simp only [Bool.not_true, cond_false] at e1 e2
      rw [h_icopyShard x0 n L y (by omega) (by omega) (by omega), Option.bind_some] at e1
      simp only at e1
      refine .inr (.inr ⟨rfl, hw, ?_⟩)
      -- what follows every change
      have tail : ∀ (M : List Led) (ok : Bool) (es : List Ed) (p : Option ((Int × Int × List Led × An) × An)) (q : Option ((Int × List Led) × An)), p = some ((x0, (n : Int), M, y), (o.1, ok, es, [])) → q = some (((n : Int), M), (o.1, ok, es, [])) → WOk n M → eOk n es = true →
          (Option.bind p fun x11 =>
  Option.bind (g_iWebLabels (x11.1.2.1, x11.1.2.2.1)) fun r12 =>
  Option.bind (g_icopyAnswer (x11.2.1, x11.2.2.1, x11.2.2.2.1, r12.1)) fun r13 =>
  some ((x11.1.1, x11.1.2.1, x11.1.2.2.1, r13.1.1, r13.1.2.1, r13.1.2.2.1, r13.1.2.2.2, x11.2.1, x11.2.2.1, x11.2.2.2.1, r12.1, (0 : Int)), ())) = some (accO x0 n M (o.1, ok, es, labs n (atE M 0)), ()) ∧ (Option.bind q fun x32 =>
  Option.bind (g_sWebLabels x32.1) fun r33 =>
  Option.bind (g_sl10Copy (x0, x32.1.1, x32.1.2, x32.2.1, x32.2.2.1, x32.2.2.2.1, r33.1)) fun r34 =>
  Option.bind (g_sl09CopyAnswer (x32.2.1, x32.2.2.1, x32.2.2.2.1, r33.1)) fun r35 =>
  some ((r34.1.1, r34.1.2.1, r34.1.2.2.1, r34.1.2.2.2.1, r34.1.2.2.2.2.1, r34.1.2.2.2.2.2.1, r34.1.2.2.2.2.2.2, r35.1.1, r35.1.2.1, r35.1.2.2.1, r35.1.2.2.2, (0 : Int)), ())) = some (accO x0 n M (o.1, ok, es, labs n (atE M 0)), ()) ∧ ShR x0 n M (o.1, ok, es, labs n (atE M 0)) := by
        intro M ok es p q hp hq hM hes
        have hM6 := (gr_e hM.gr).2.2
        have hes6 := eOk_len hes
        have hll := labs_len n (atE M 0)
        obtain ⟨V, v1, v2, _⟩ := w_iWebLabels n M (by omega)
        obtain ⟨V', v1', v2', _⟩ := w_sWebLabels n M (by omega)
        rw [v2 hM] at v1
        rw [v2' hM] at v1'
        have i1 := h_icopyAnswer (o.1, ok, es, labs n (atE M 0)) (by simp only; omega) (by simp only; omega)
        have i2 := h_sl10Copy x0 n M (o.1, ok, es, labs n (atE M 0)) (by omega) (by simp only; omega) (by simp only; omega)
        have i3 := h_sl09CopyAnswer (o.1, ok, es, labs n (atE M 0)) (by simp only; omega) (by simp only; omega)
        subst hp hq
        simp only [Option.bind_some, v1, v1', i1, i2, i3]
        refine ⟨rfl, rfl, h.id, hM, .inr ⟨?_, rfl⟩⟩
        unfold ansB
        unfold ordB at hob
        simp only [Bool.and_eq_true] at hob ⊢
        exact ⟨hob.1, hob.2.1, hes, lb_labs (gr_ein hM.gr 0)⟩
      have hob' := hob
      unfold ordB at hob'
      simp only [Bool.and_eq_true] at hob'
      obtain ⟨d1, _, d3, d4, d5⟩ := hob'
      have d3' := inB_t.1 d3
      have hol := eOk_len d4
      have e0 : eOk (n : Int) [] = true := by
        unfold eOk
        rw [if_pos (fun i hi => absurd hi (by simp))]
        rfl
      obtain ⟨hgE, hgn, _⟩ := gr_e hg
      have hsrt : Srt (gE L) := by
        have h := hg
        unfold grB at h
        rw [Bool.and_eq_true] at h
        exact (eOk_srt h.2).2.1
      by_cases c2' : o.2.1 = 2
      · rw [if_neg (by omega), if_neg (by omega)] at d5
        simp only [Bool.and_eq_true, decide_eq_true_eq] at d5
        obtain ⟨e, he⟩ := List.length_eq_one_iff.1 d5.1
        obtain ⟨t1, t2, t3⟩ := WT_ok (W := ((n : Int), L)) e (by simp only; omega)
        rw [decide_eq_true c2', he] at e1
        rw [decide_eq_true c2', decide_eq_false (show ¬ o.2.1 = 1 from by omega), decide_eq_false (show ¬ o.2.1 = 4 from by omega), he] at e2
        by_cases hin : e ∈ gE L
        · obtain ⟨k1, k2, k3, k4⟩ := wt_right h.web hin
          obtain ⟨g1, g2, g3⟩ := tail (WT ((n : Int), L) e).2.1 true [] (Option.bind (g_iWebTake (((n : Int), L), e)) fun r7 => Option.bind (bif r7.1.2.2.2.2.2 then some (x0, r7.1.1, r7.1.2.1, y) else some (x0, (n : Int), L, y)) fun x8 => some (x8, (o.1, r7.1.2.2.2.2.2, [], []))) (Option.bind (g_sWebTake (((n : Int), L), e)) fun r16 => Option.bind (bif r16.1.2.2.2.2.2 then some (r16.1.1, r16.1.2.1) else some ((n : Int), L)) fun x17 => some (x17, (o.1, r16.1.2.2.2.2.2, [], [])))
            (by rw [t1, Option.bind_some, k2, cond_true, Option.bind_some, k1]) (by rw [t2, Option.bind_some, k2, cond_true, Option.bind_some, k1]) k3 e0
          refine ⟨_, _, e1.trans g1, e2.trans g2, g3, rfl, rfl, fun hc => by omega, fun _ => ⟨e, he, k4, by rw [decide_eq_true hin], rfl⟩, fun hc => by omega⟩
        · have k2 := wt_bad h.web hin
          obtain ⟨g1, g2, g3⟩ := tail L false [] (Option.bind (g_iWebTake (((n : Int), L), e)) fun r7 => Option.bind (bif r7.1.2.2.2.2.2 then some (x0, r7.1.1, r7.1.2.1, y) else some (x0, (n : Int), L, y)) fun x8 => some (x8, (o.1, r7.1.2.2.2.2.2, [], []))) (Option.bind (g_sWebTake (((n : Int), L), e)) fun r16 => Option.bind (bif r16.1.2.2.2.2.2 then some (r16.1.1, r16.1.2.1) else some ((n : Int), L)) fun x17 => some (x17, (o.1, r16.1.2.2.2.2.2, [], [])))
            (by rw [t1, Option.bind_some, k2, cond_false, Option.bind_some]) (by rw [t2, Option.bind_some, k2, cond_false, Option.bind_some]) h.web e0
          refine ⟨_, _, e1.trans g1, e2.trans g2, g3, rfl, rfl, fun hc => by omega, fun _ => ⟨e, he, ?_, by rw [decide_eq_false hin], rfl⟩, fun hc => by omega⟩
          unfold del
          rw [List.filter_eq_self.2]
          intro z hz
          rw [Bool.not_eq_true', decide_eq_false_iff_not]
          rintro rfl
          exact hin hz
      · by_cases c3' : o.2.1 = 3
        · rw [decide_eq_false c2', decide_eq_true c3', cond_false, cond_true] at e1
          rw [decide_eq_false c2', decide_eq_true c3', decide_eq_false (show ¬ o.2.1 = 1 from by omega), decide_eq_false (show ¬ o.2.1 = 4 from by omega), cond_false, Option.bind_some, cond_false, cond_false, cond_true, h_sGraphOf n L (by omega), Option.bind_some] at e2
          have hgl : (gE L).length = L.length := by unfold gE; rw [List.length_map]
          have r1 := h_release x0 n L y (by omega) o.2.2.2
          have r2 := h_releaseS n L (by omega) o.2.2.2 o.1 (gE L) (by omega)
          obtain ⟨k1, k2, k3, k4⟩ := reS_right o.2.2.2 (gE L) L [] h.web hgn (fun _ hz => hz)
          have hfe : eOk (n : Int) ((gE L).filter (atV o.2.2.2)) = true := by
            by_cases hn2 : 2 ≤ n
            · have hG := of_gr hg hn2
              exact eOk_of ⟨hG.1, hG.2.1, hsrt.filter _, fun z hz => hgE z (List.mem_filter.1 hz).1⟩ (by
                have := List.length_filter_le (atV o.2.2.2) (gE L)
                omega)
            · have : gE L = [] := by
                cases hgl' : gE L with
                | nil => rfl
                | cons z zs =>
                  have := edB_in (hgE z (by rw [hgl']; exact List.mem_cons_self ..))
                  omega
              rw [this]
              exact e0
          obtain ⟨g1, g2, g3⟩ := tail ((gE L).foldl (reS o.2.2.2) (((n : Int), L), [])).1.2 true ((gE L).filter (atV o.2.2.2)) (Option.bind (g_iShard_release ((x0, (n : Int), L, y), o.2.2.2)) fun r9 => some (r9.2, (o.1, true, r9.1, []))) (some (((gE L).foldl (reS o.2.2.2) (((n : Int), L), [])).1, (o.1, true, ((gE L).foldl (reS o.2.2.2) (((n : Int), L), [])).2, [])))
            (by rw [r1, Option.bind_some, k1, k4]; rfl) (by rw [k4, List.nil_append]; congr 2; exact Prod.ext k1 rfl) k2 hfe
          refine ⟨_, _, e1.trans g1, e2.trans ((congrArg (fun q => Option.bind q _) r2).trans g2), g3, rfl, rfl, fun hc => by omega, fun hc => by omega, fun _ => ⟨fun x => ?_, rfl, rfl, fun hnil => ?_⟩⟩
          · rw [k3]
            constructor
            · rintro ⟨p1, p2⟩
              refine ⟨p1, ?_⟩
              cases hc : atV o.2.2.2 x with
              | false => rfl
              | true => exact absurd ⟨p1, hc⟩ p2
            · rintro ⟨p1, p2⟩
              exact ⟨p1, fun hc => by rw [p2] at hc; cases hc.2⟩
          · have := reS_none o.2.2.2 (gE L) (((n : Int), L), []) hnil
            rw [this]
        · rw [decide_eq_false c2', decide_eq_false c3', cond_false, cond_false] at e1
          rw [decide_eq_false c2', decide_eq_false c3'] at e2
          have r1 := h_accept x0 n L y (by omega) o.2.2.1 (by omega)
          have r2 := h_acceptS n L (by omega) o.1 o.2.2.1 (by omega)
          have hc : (bif decide (o.2.1 = (1 : Int)) then some true else some (decide (o.2.1 = (4 : Int))) : Option Bool) = some true := by
            by_cases h : o.2.1 = 1
            · rw [decide_eq_true h]; rfl
            · rw [decide_eq_false h, decide_eq_true (show o.2.1 = 4 from by omega)]; rfl
          rw [hc, Option.bind_some, cond_true] at e2
          have hee := (eOk_srt d4)
          obtain ⟨k1, k2, k3, k4⟩ := acS_right o.2.2.1 L true h.web hee.1
          obtain ⟨g1, g2, g3⟩ := tail (o.2.2.1.foldl acS (((n : Int), L), true)).1.2 (o.2.2.1.foldl acS (((n : Int), L), true)).2 [] (Option.bind (g_iShard_accept ((x0, (n : Int), L, y), o.2.2.1)) fun r10 => some (r10.2, (o.1, r10.1, [], []))) (some ((o.2.2.1.foldl acS (((n : Int), L), true)).1, (o.1, (o.2.2.1.foldl acS (((n : Int), L), true)).2, [], [])))
            (by rw [r1, Option.bind_some, k1]) (by congr 2; exact Prod.ext k1 rfl) k2 e0
          refine ⟨_, _, e1.trans g1, e2.trans ((congrArg (fun q => Option.bind q _) r2).trans g2), g3, rfl, rfl, fun _ => ⟨k3, fun hz => k4 (srt_nodup hee.2.1) hz, rfl, fun e he => ?_⟩, fun hc => by omega, fun hc => by omega⟩
          show (o.2.2.1.foldl acS (((n : Int), L), true)).2 = _
          rw [he]
          show (acS (((n : Int), L), true) e).2 = _
          unfold acS
          by_cases hin : e ∈ gE L
          · rw [decide_eq_true hin]
            simp only [wa_bad h.web hin, Bool.and_false, Bool.not_true]
          · rw [decide_eq_false hin]
            simp only [(wa_right h.web (hee.1 e (by rw [he]; exact List.mem_singleton.2 rfl)) hin).2.1, Bool.and_self, Bool.not_false]
theorem wok_nil {n:Nat} (h1:1<=n) (h2:n<=12):WOk n []:=
 ⟨by
  unfold grB
  rw [inB_t.2 (by omega),Bool.true_and]
  unfold eOk
  rw [if_pos (fun i hi=>absurd hi (by simp [gE]))]
  rfl,fun x hx=>(by cases hx),fun e he=>(by cases he),fun x hx=>(by cases hx),fun k _ _ e he=>(by cases he)⟩
theorem sh_nil {n:Nat} {x0:Int} (h0:1<=x0/\x0<=3) (h1:1<=n) (h2:n<=12):ShR x0 n [] (0,false,[],[]):=⟨h0,wok_nil h1 h2,.inl rfl⟩
abbrev Shd:=List Led × An
structure Ply (n:Nat) (own:List Int) (cuts:List Ed) (lab:List (List Int)) (nums:List Int) (said:List Sd) (ss:List Shd) (g:List Ed) (c:Nat):Prop where
 n2:2<=n/\n<=12
 k:1<=ss.length/\ss.length<=3/\lab.length=ss.length/\nums.length=ss.length
 owr:own.length=n/\∀v:Int,0<=v/\v<n->1<=own.getD v.toNat 0/\own.getD v.toNat 0<=ss.length
 cgr:GrOk n cuts
 cut:∀e,e∈cuts->own.getD e.1.toNat 0≠own.getD e.2.toNat 0
 sh:∀(j:Nat) (L:List Led) (y:An),ss[j]?=some (L,y)->ShR ((j:Int)+1) n L y/\nums.getD j 0=y.1/\y.1<=c/\lab.getD j []=labs n (gE L)/\∀e,e∈gE L->own.getD e.1.toNat 0=(j:Int)+1/\own.getD e.2.toNat 0=(j:Int)+1
 gr:GrOk n g
 gin:∀e,e∈g↔e∈cuts\/∃(j:Nat) (L:List Led) (y:An),ss[j]?=some (L,y)/\e∈gE L
 sdo:oP4 said/\said.length<=c
section
variable {n:Nat} {own:List Int} {cuts:List Ed} {lab:List (List Int)} {nums:List Int} {said:List Sd} {ss:List Shd} {g:List Ed} {c:Nat}
theorem Ply.at (h:Ply n own cuts lab nums said ss g c) {s:Int} (h1:1<=s/\s<=ss.length):∃L y,ss[(s-1).toNat]?=some (L,y):=by
 have hl:(s-1).toNat<ss.length:=by omega
 exact ⟨_,_,List.getElem?_eq_getElem hl⟩
theorem gE_in {x0:Int} {L:List Led} {y:An} (h:ShR x0 n L y):EIn n (gE L):=fun e he=>by
 have:=edB_in ((gr_e h.web.gr).1 e he)
 exact ⟨this.1,this.2.1,this.2.2.1,this.2.2.2.1⟩
theorem Ply.hd (h:Ply n own cuts lab nums said ss g c) (hc:c<=80) {t:Bool} (ht:t=true):hdB n own cuts lab nums said t=true:=by
 obtain ⟨k1,k2,k3,k4⟩:=h.k
 have hn:=h.n2
 unfold hdB
 rw [decide_eq_true_eq]
 refine ⟨⟨inB_t.2 (by omega),inB_t.2 (by omega),by omega⟩,fun i hi => ?_,⟨by rw [h.owr.1],eOk_of h.cgr (gr_len h.cgr)⟩,fun i hi => ?_,fun i hi => ?_,⟨h.sdo.1,by have:=h.sdo.2;omega⟩,ht⟩
 ·have hl:i<ss.length:=by omega
  obtain ⟨s1,s2,s3,s4,_⟩:=h.sh i _ _ (List.getElem?_eq_getElem hl)
  have h0:=s1.len.2.2.2.1
  unfold p3
  rw [s4,s2,lb_labs (gE_in s1),inB_t.2 (by omega)]
  rfl
 ·rw [h.owr.1] at hi
  have:=h.owr.2 (i:Int) (by omega)
  rw [Int.toNat_natCast] at this
  unfold p1
  exact inB_t.2 (by omega)
 ·unfold p2
  have e:cuts.getD i (0,0)=cuts[i]:=by rw [List.getD_eq_getElem?_getD,List.getElem?_eq_getElem hi];rfl
  rw [e,decide_eq_false (h.cut _ (List.getElem_mem hi))]
  rfl
theorem Ply.one (h:Ply n own cuts lab nums said ss g c) {e:Ed} {s:Int} (h1:own.getD e.1.toNat 0=s) (h2:own.getD e.2.toNat 0=s) {L:List Led} {y:An} (hs:ss[(s-1).toNat]?=some (L,y)) (s1:1<=s):e∈g↔e∈gE L:=by
 rw [h.gin]
 constructor
 ·rintro (hc|⟨j,L',y',hj,he⟩)
  ·exact absurd (h1.trans h2.symm) (h.cut e hc)
  ·have:=(h.sh j L' y' hj).2.2.2.2 e he
   have hjs:j=(s-1).toNat:=by omega
   subst hjs
   rw [hs] at hj
   cases hj
   exact he
 ·intro he
  exact .inr ⟨_,_,_,hs,he⟩
theorem Ply.two (h:Ply n own cuts lab nums said ss g c) {e:Ed} (h1:own.getD e.1.toNat 0≠own.getD e.2.toNat 0):e∈g↔e∈cuts:=by
 rw [h.gin]
 constructor
 ·rintro (hc|⟨j,L',y',hj,he⟩)
  ·exact hc
  ·have:=(h.sh j L' y' hj).2.2.2.2 e he
   exact absurd (this.1.trans this.2.symm) h1
 ·exact .inl
theorem Ply.more (h:Ply n own cuts lab nums said ss g c) {said':List Sd} (hs:oP4 said'/\said'.length<=c+1):Ply n own cuts lab nums said' ss g (c+1):=
 ⟨h.n2,h.k,h.owr,h.cgr,h.cut,fun j L y hj=>by
  obtain ⟨s1,s2,s3,s4,s5⟩:=h.sh j L y hj
  exact ⟨s1,s2,by omega,s4,s5⟩,h.gr,h.gin,hs⟩
end
inductive Pnd (n:Nat) (own:List Int) (cuts:List Ed) (lab:List (List Int)) (nums:List Int) (said:List Sd) (ss:List Shd) (g:List Ed) (c:Nat):Int->Int->Int->Int->Int->Int->Int->List Ed->Int->Prop
 | idle (h:Ply n own cuts lab nums said ss g c):Pnd n own cuts lab nums said ss g c 0 0 0 0 0 0 0 [] 0
 | chg {i op a b:Int} (h:Ply n own cuts lab nums said ss g c) (hi:inB i 1 100000=true) (hs:sA said i<0) (ho:op=1\/op=2) (ha:0<=a/\a<n) (hb:0<=b/\b<n) (hab:a≠b) (hw:own.getD a.toNat 0=own.getD b.toNat 0) :
   Pnd n own cuts lab nums said ss g c i op a b (own.getD a.toNat 0) (nums.getD (own.getD a.toNat 0-1).toNat 0+1) op [edO a b] 0
 | rel {i a b:Int} (h:Ply n own cuts lab nums said ss g c) (hi:inB i 1 100000=true) (hs:sA said i<0) (ha:0<=a/\a<n) (hb:1<=b/\b<=ss.length) (hw:own.getD a.toNat 0≠b) :
   Pnd n own cuts lab nums said ss g c i 4 a b (own.getD a.toNat 0) (nums.getD (own.getD a.toNat 0-1).toNat 0+1) 3 [] a
 | acc {i a b:Int} {es g':List Ed} (h:Ply n own cuts lab nums said ss g' c) (hi:inB i 1 100000=true) (hs:sA said i<0) (ha:0<=a/\a<n) (hb:1<=b/\b<=ss.length) (hes:GrOk n es/\es≠[]) (hin:∀e,e∈es->own.getD e.1.toNat 0=b/\own.getD e.2.toNat 0=b/\e∉g') (hgr:GrOk n g) (hg:∀e,e∈g↔e∈g'\/e∈es) :
   Pnd n own cuts lab nums said ss g c i 4 a b b (nums.getD (b-1).toNat 0+1) 4 es 0
section
variable {n:Nat} {own:List Int} {cuts:List Ed} {lab:List (List Int)} {nums:List Int} {said:List Sd} {ss:List Shd} {g:List Ed} {c:Nat} {x5 x6 x7 x8 x9 x10 x11:Int} {x12:List Ed} {x13:Int}
theorem Pnd.ply (h:Pnd n own cuts lab nums said ss g c x5 x6 x7 x8 x9 x10 x11 x12 x13):∃g',Ply n own cuts lab nums said ss g' c:=by
 cases h with
 | idle h=>exact ⟨_,h⟩
 | chg h=>exact ⟨_,h⟩
 | rel h=>exact ⟨_,h⟩
 | acc h=>exact ⟨_,h⟩
theorem ord_of {o:Or'} (hn:2<=n/\n<=12) (h1:1<=o.1/\o.1<=100000) (h2:(o.2.1=1\/o.2.1=2)/\o.2.2.1.length=1/\o.2.2.2=0\/o.2.1=3/\o.2.2.1=[]/\(0<=o.2.2.2/\o.2.2.2<n)\/o.2.1=4/\o.2.2.1≠[]/\o.2.2.2=0) (hg:GrOk n o.2.2.1):ordB n o=true:=by
 unfold ordB
 rw [inB_t.2 (by omega),inB_t.2 h1,inB_t.2 (by omega),eOk_of hg (gr_len hg)]
 rcases h2 with ⟨h2,h3,h4⟩|⟨h2,h3,h4⟩|⟨h2,h3,h4⟩
 ·rw [if_neg (by omega),if_neg (by omega),decide_eq_true h3,decide_eq_true h4]
  rfl
 ·rw [if_pos h2,decide_eq_true (by rw [h3];rfl),inB_t.2 (by omega)]
  rfl
 ·rw [if_neg (by omega),if_pos h2,decide_eq_true (List.length_pos_iff.2 h3),decide_eq_true h4]
  rfl
theorem edO_ok {a b:Int} (hn:2<=n/\n<=12) (ha:0<=a/\a<n) (hb:0<=b/\b<n) (hab:a≠b):edB n (edO a b)=true:=by
 unfold edO edB
 split
 ·rw [inB_t.2 (by omega),inB_t.2 (by simp only;omega),inB_t.2 (by simp only;omega),decide_eq_true (by assumption)]
  rfl
 ·rw [inB_t.2 (by omega),inB_t.2 (by simp only;omega),inB_t.2 (by simp only;omega),decide_eq_true (by simp only;omega)]
  rfl
theorem gr_one {e:Ed} (hn:2<=n/\n<=12) (he:edB n e=true):GrOk n [e]:=
 ⟨by omega,by omega,List.pairwise_singleton _ _,fun x hx=>by rw [List.mem_singleton.1 hx];exact he⟩
theorem gr_nil (hn:2<=n/\n<=12):GrOk n []:=⟨by omega,by omega,List.Pairwise.nil,fun x hx=>by cases hx⟩
theorem Pnd.ord (h:Pnd n own cuts lab nums said ss g c x5 x6 x7 x8 x9 x10 x11 x12 x13) (h9:x9≠0) (hc:c<=80) :
  (1<=x9/\x9<=ss.length)/\∃L y,ss[(x9-1).toNat]?=some (L,y)/\ordB n (x10,x11,x12,x13)=true/\x10=y.1+1/\x10=nums.getD (x9-1).toNat 0+1:=by
 have num:∀{g'} (hP:Ply n own cuts lab nums said ss g' c) {s:Int},1<=s/\s<=ss.length->∃L y,ss[(s-1).toNat]?=some (L,y)/\nums.getD (s-1).toNat 0=y.1/\0<=y.1/\y.1<=c:=by
  intro g' hP s hs
  obtain ⟨L,y,hy⟩:=hP.at hs
  obtain ⟨s1,s2,s3,_⟩:=hP.sh _ _ _ hy
  exact ⟨L,y,hy,s2,s1.len.2.2.2.1,s3⟩
 cases h with
 | idle h=>exact absurd rfl h9
 | chg h hi hs ho ha hb hab hw=>
  have hr:=h.owr.2 _ ha
  obtain ⟨L,y,hy,y1,y2,y3⟩:=num h hr
  exact ⟨hr,L,y,hy,ord_of h.n2 (by simp only;omega) (.inl ⟨ho,rfl,rfl⟩) (gr_one h.n2 (edO_ok h.n2 ha hb hab)),by omega,rfl⟩
 | rel h hi hs ha hb hw=>
  have hr:=h.owr.2 _ ha
  obtain ⟨L,y,hy,y1,y2,y3⟩:=num h hr
  exact ⟨hr,L,y,hy,ord_of h.n2 (by simp only;omega) (.inr (.inl ⟨rfl,rfl,ha⟩)) (gr_nil h.n2),by omega,rfl⟩
 | acc h hi hs ha hb hes hin hgr hg=>
  obtain ⟨L,y,hy,y1,y2,y3⟩:=num h hb
  exact ⟨hb,L,y,hy,ord_of h.n2 (by simp only;omega) (.inr (.inr ⟨rfl,hes.2,rfl⟩)) hes.1,by omega,rfl⟩
theorem rt_of {k:Nat} {op a b:Int} (h:(op=1\/op=2)/\(0<=a/\a<n)/\(0<=b/\b<n)/\a≠b\/op=4/\(0<=a/\a<n)/\(1<=b/\b<=k)):rtB n k op a b=true:=by
 unfold rtB
 rcases h with ⟨h1,h2,h3,h4⟩|⟨h1,h2,h3⟩
 ·rw [inB_t.2 (by omega),inB_t.2 (by omega),decide_eq_false (by omega),cond_false,inB_t.2 (by omega),decide_eq_false h4]
  rfl
 ·rw [inB_t.2 (by omega),inB_t.2 (by omega),decide_eq_true h1,cond_true,inB_t.2 (by omega)]
  rfl
theorem Pnd.tk (h:Pnd n own cuts lab nums said ss g c x5 x6 x7 x8 x9 x10 x11 x12 x13) (hc:c<=80):tkB n lab.length nums said x5 x6 x7 x8 x9 (x10,x11,x12,x13)=true:=by
 unfold tkB
 by_cases h9:x9=0
 ·have:tB x5 x6 x7 x8 x9 (x10,x11,x12,x13)=true:=by
   have hr:∀{g'} (hP:Ply n own cuts lab nums said ss g' c) {a:Int},0<=a/\a<n->own.getD a.toNat 0≠0:=by
    intro g' hP a ha
    have:=hP.owr.2 a ha
    omega
   cases h with
   | idle h=>rfl
   | chg h hi hs ho ha hb hab hw=>exact absurd h9 (hr h ha)
   | rel h hi hs ha hb hw=>exact absurd h9 (hr h ha)
   | acc h hi hs ha hb hes hin hgr hg=>omega
  rw [this]
  rfl
 ·obtain ⟨h1,L,y,h2,h3,h4,h5⟩:=h.ord h9 hc
  obtain ⟨g',hP⟩:=h.ply
  have hk:=hP.k
  have hy:=(hP.sh _ _ _ h2).1.len
  have hlast:(inB x5 1 100000&&(!decide (x6=3)&&rtB n lab.length x6 x7 x8))=true/\sA said x5<0:=by
   cases h with
   | idle h=>exact absurd rfl h9
   | chg h hi hs ho ha hb hab hw=>
    rw [hi,decide_eq_false (by omega),rt_of (.inl ⟨ho,ha,hb,hab⟩)]
    exact ⟨rfl,hs⟩
   | rel h hi hs ha hb hw=>
    rw [hi,rt_of (.inr ⟨rfl,ha,by omega⟩)]
    exact ⟨rfl,hs⟩
   | acc h hi hs ha hb hes hin hgr hg=>
    rw [hi,rt_of (.inr ⟨rfl,ha,by omega⟩)]
    exact ⟨rfl,hs⟩
  rw [hlast.1,inB_t.2 (show 1<=x9/\x9<=(lab.length:Int) from by omega),h3,wr (n:=nums.getD (x9-1).toNat 0+1) (by omega) (by omega),decide_eq_true (show (x10,x11,x12,x13).1=nums.getD (x9-1).toNat 0+1 from h5),decide_eq_true hlast.2]
  simp
theorem Pnd.hd (h:Pnd n own cuts lab nums said ss g c x5 x6 x7 x8 x9 x10 x11 x12 x13) (hc:c<=80):hdB n own cuts lab nums said (tkB n lab.length nums said x5 x6 x7 x8 x9 (x10,x11,x12,x13))=true:=by
 obtain ⟨g',hP⟩:=h.ply
 exact hP.hd hc (h.tk hc)
end
section
variable {n:Nat} {own:List Int} {cuts:List Ed} {lab:List (List Int)} {nums:List Int} {said:List Sd} {ss:List Shd} {g:List Ed} {c:Nat}
theorem Ply.split (h:Ply n own cuts lab nums said ss g c) {j0:Nat} {L:List Led} {y:An} (hs:ss[j0]?=some (L,y)) (x:Ed):x∈g↔x∈cuts\/x∈gE L\/∃(j:Nat) (M:List Led) (w:An),j≠j0/\ss[j]?=some (M,w)/\x∈gE M:=by
 rw [h.gin]
 constructor
 ·rintro (h1|⟨j,M,w,hj,he⟩)
  ·exact .inl h1
  ·by_cases hjj:j=j0
   ·subst hjj
    rw [hs] at hj
    cases hj
    exact .inr (.inl he)
   ·exact .inr (.inr ⟨j,M,w,hjj,hj,he⟩)
 ·rintro (h1|h1|⟨j,M,w,_,hj,he⟩)
  ·exact .inl h1
  ·exact .inr ⟨j0,L,y,hs,h1⟩
  ·exact .inr ⟨j,M,w,hj,he⟩
end
theorem h_sl08Size (a:List Int) (ha:a.length<=1048576):∃v,g_sl08Size a=some (v,())/\0<=v/\v<=60:=by
 show ∃v,f_sl08Size BIG _=_/\_
 rw [e_sl08Size,decide_eq_false (by omega),cond_false]
 have h1:Int.tdiv (a.length:Int) 4=(a.length:Int) / 4:=Int.tdiv_eq_ediv_of_nonneg (by omega)
 rw [h1,wr (n:=(a.length:Int) / 4) (by omega) (by omega),wr (n:=12+(a.length:Int) / 4) (by omega) (by omega)]
 by_cases h:(60:Int)<12+(a.length:Int) / 4
 ·rw [decide_eq_true h]
  exact ⟨60,rfl,by omega,by omega⟩
 ·rw [decide_eq_false h]
  exact ⟨_,rfl,by omega,by omega⟩
theorem h_sl10Shard (c:Cur) (hc:curOk c) (a:List Int) (ha:a.length<=1048576):∃(x0:Int) (n:Nat) (L:List Led) (y:An) (c':Cur),g_sl10Shard (c,a)=some ((x0,(n:Int),L,y),c')/\curOk c'/\ShR x0 n L y/\2<=n/\n<=12/\y.1<=60:=by
 have hm:maxLen=9223372036854775807:=by decide
 show ∃x0 n L y c',f_sl10Shard BIG _=_/\_
 obtain ⟨r0,c0,k0,o0,a0,b0,_⟩:=h_sl01Below c 3 hc (by omega)
 have b0:=b0 (by omega)
 obtain ⟨n0,c1,k1,o1,hn2,hn12⟩:=h_sl09N c0 o0
 obtain ⟨n,rfl⟩:∃n:Nat,n0=(n:Int):=⟨n0.toNat,by omega⟩
 rw [e_sl10Shard,k0,Option.bind_some]
 simp only
 rw [k1,Option.bind_some,wr (n:=1+r0) (by omega) (by omega),h_sShardNew,if_pos (by rw [inB_t.2 (by omega),inB_t.2 (by omega)];rfl),Option.bind_some]
 simp only
 obtain ⟨v,s1,s2,s3⟩:=h_sl08Size a ha
 refine loop_bind (P:=fun o=>∃(x0:Int) (n:Nat) (L:List Led) (y:An) (c':Cur),o=some ((x0,(n:Int),L,y),c')/\curOk c'/\ShR x0 n L y/\2<=n/\n<=12/\y.1<=60)
  (fun (s:Cur × (Int × Int × List Led × An) × Int)=>∃(i:Nat) (L:List Led) (y:An),s.2.2=(i:Int)/\i<=60/\curOk s.1/\s.2.1=(1+r0,(n:Int),L,y)/\ShR (1+r0) n L y/\y.1<=i) (fun s=>60-s.2.2.toNat)
  (fun _ (b:Cur × (Int × Int × List Led × An))=>∃(L:List Led) (y:An),b.2=(1+r0,(n:Int),L,y)/\curOk b.1/\ShR (1+r0) n L y/\y.1<=60) (by simp [BIG]) ⟨0,[],(0,false,[],[]),rfl,by omega,o1,rfl,sh_nil (by omega) (by omega) (by omega),by simp⟩ (fun self s hx hs => ?_) (fun b ⟨L,y,hb1,hb2,hb3,hb4⟩=>⟨1+r0,n,L,y,b.1,by rw [hb1],hb2,hb3,by omega,by omega,hb4⟩)
 obtain ⟨cu,S,j⟩:=s
 obtain ⟨i,L,y,h1,hi,hcu,hS,hR,hy⟩:=hx
 simp only at h1 hcu hS hs ⊢
 subst h1 hS
 rw [s1,Option.bind_some]
 obtain ⟨r6,c6,k6,o6,a6,b6,b6'⟩:=h_sl01Below cu v hcu (by omega)
 simp only
 rw [k6,Option.bind_some]
 by_cases hiv:(i:Int)<r6
 case neg=>
  rw [decide_eq_false hiv,cond_false]
  exact ⟨_,rfl,L,y,rfl,o6,hR,by omega⟩
 have hi60:i<60:=by
  by_cases h:0<v
  ·have:=b6 h;omega
  ·have:=b6' (by omega);omega
 rw [decide_eq_true hiv,cond_true]
 obtain ⟨hL6,hle,hll,hy0,_⟩:=hR.len
 obtain ⟨o,c7,k7,o7,hol⟩:=h_sl09Order c6 n o6 (by omega) (by omega)
 simp only
 rw [k7,Option.bind_some]
 simp only
 have hx9:∃cu' b,(bif decide ((0:Int)<(L.length:Int)) then bif decide (o.2.1=(2:Int)) then Option.bind (g_sl01Once (c7,(3:Int))) fun r8=>some (r8.2,!r8.1) else some (c7,false) else some (c7,false):Option (Cur × Bool))=some (cu',b)/\curOk cu'/\(b=true->0<L.length):=by
  by_cases h4:(0:Int)<(L.length:Int)
  ·rw [decide_eq_true h4,cond_true]
   by_cases h5:o.2.1=2
   ·rw [decide_eq_true h5,cond_true]
    obtain ⟨b,c',k1,k2⟩:=h_sl01Once c7 3 o7 (by omega)
    rw [k1,Option.bind_some]
    exact ⟨_,_,rfl,k2,fun _=>by omega⟩
   ·rw [decide_eq_false h5,cond_false]
    exact ⟨_,_,rfl,o7,fun h=>by cases h⟩
  ·rw [decide_eq_false h4,cond_false]
   exact ⟨_,_,rfl,o7,fun h=>by cases h⟩
 obtain ⟨cu',b,hx9,hcu',hb⟩:=hx9
 rw [hx9,Option.bind_some,wr (n:=y.1+1) (by omega) (by omega)]
 have hx13:∃cu2 o2,(bif b then Option.bind (g_sl01Below (cu',(L.length:Int))) fun r10=>bnd L.length r10.1 fun n11=>Option.bind L[n11]? fun y12=>some (r10.2,(y.1+1,o.2.1,[(y12.1,y12.2.1)],o.2.2.2)) else some (cu',(y.1+1,o.2)):Option (Cur × Or'))=some (cu2,o2)/\curOk cu2/\o2.1=y.1+1/\o2.2.2.1.length<=5:=by
  cases b with
  | true=>
   have hlen:=hb rfl
   obtain ⟨r,c2,k1,k2,k3,k4,_⟩:=h_sl01Below cu' (L.length:Int) hcu' (by omega)
   have k4:=k4 (by omega)
   have hrl:r.toNat<L.length:=by omega
   rw [cond_true,k1,Option.bind_some,bnd_ok k3 (by omega),List.getElem?_eq_getElem hrl,Option.bind_some]
   exact ⟨_,_,rfl,k2,rfl,by simp⟩
  | false=>exact ⟨_,_,rfl,hcu',rfl,hol⟩
 obtain ⟨cu2,o2,hx13,hcu2,ho1,ho2⟩:=hx13
 simp only
 rw [hx13,Option.bind_some]
 simp only
 have hx15:∃cu3 b3,(bif decide (o2.2.1=(3:Int)) then Option.bind (g_sl01Once (cu2,(3:Int))) fun r14=>some (r14.2,!r14.1) else some (cu2,false):Option (Cur × Bool))=some (cu3,b3)/\curOk cu3:=by
  by_cases h5:o2.2.1=3
  ·rw [decide_eq_true h5,cond_true]
   obtain ⟨b,c',k1,k2⟩:=h_sl01Once cu2 3 hcu2 (by omega)
   rw [k1,Option.bind_some]
   exact ⟨_,_,rfl,k2⟩
  ·rw [decide_eq_false h5,cond_false]
   exact ⟨_,_,rfl,hcu2⟩
 obtain ⟨cu3,b3,hx15,hcu3⟩:=hx15
 rw [hx15,Option.bind_some]
 simp only
 cases b3 with
 | true=>
  rw [cond_true,Option.bind_some,wr1 (by omega)]
  exact hs _ ⟨i+1,L,y,rfl,by omega,hcu3,rfl,hR,by omega⟩ (by simp;omega)
 | false=>
  rw [cond_false]
  rcases obey_right hR o2 (by omega) with ⟨_,g2,_⟩|⟨_,g2,_,_⟩|⟨_,q2,L',z,_,g2,g3,g4⟩
  ·rw [g2,Option.bind_some]
   unfold rejO
   simp only
   rw [decide_eq_false (by omega),cond_false,Option.bind_some,wr1 (by omega)]
   exact hs _ ⟨i+1,L,y,rfl,by omega,hcu3,rfl,hR,by omega⟩ (by simp;omega)
  ·rw [g2,Option.bind_some]
   unfold accO
   simp only
   rw [decide_true,cond_true,Option.bind_some,wr1 (by omega)]
   exact hs _ ⟨i+1,L,y,rfl,by omega,hcu3,rfl,hR,by omega⟩ (by simp;omega)
  ·rw [g2,Option.bind_some]
   unfold accO
   simp only
   rw [decide_true,cond_true,Option.bind_some,wr1 (by omega)]
   exact hs _ ⟨i+1,L',z,rfl,by omega,hcu3,rfl,g3,by have:=g4.num;omega⟩ (by simp;omega)
theorem h_sDrawRightShard (a:List Int) (ha:a.length<=1048576):∃(x0:Int) (n:Nat) (L:List Led) (y:An) (o:Or'),g_sDrawRightShard a=some ((x0,(n:Int),L,y.1,y.2.1,y.2.2.1,y.2.2.2,o),())/\ShR x0 n L y/\2<=n/\n<=12/\y.1<=60/\o.1=y.1+1/\o.2.2.1.length<=5:=by
 show ∃x0 n L y o,f_sDrawRightShard BIG _=_/\_
 obtain ⟨c,k0,hc⟩:=h_sl01New a ha
 obtain ⟨x0,n,L,y,c1,k1,o1,hR,h2,h12,h60⟩:=h_sl10Shard c hc a ha
 obtain ⟨hL6,hle,hll,hy0,_⟩:=hR.len
 obtain ⟨o,c2,k2,o2,hol⟩:=h_sl09Order c1 n o1 (by omega) (by omega)
 rw [e_sDrawRightShard,k0,Option.bind_some,k1,Option.bind_some]
 simp only
 rw [k2,Option.bind_some,wr (n:=y.1+1) (by omega) (by omega)]
 simp only
 have hx:∃b:Bool,(bif decide ((0:Int)<(L.length:Int)) then some (decide (o.2.1=(2:Int))) else some false:Option Bool)=some b/\(b=true->0<L.length):=by
  by_cases h4:(0:Int)<(L.length:Int)
  ·rw [decide_eq_true h4]
   exact ⟨_,rfl,fun _=>by omega⟩
  ·rw [decide_eq_false h4]
   exact ⟨_,rfl,fun h=>by cases h⟩
 obtain ⟨b,hx,hb⟩:=hx
 rw [hx,Option.bind_some]
 cases b with
 | true=>
  have hlen:=hb rfl
  obtain ⟨r,c3,k1,k2,k3,k4,_⟩:=h_sl01Below c2 (L.length:Int) o2 (by omega)
  have k4:=k4 (by omega)
  have hrl:r.toNat<L.length:=by omega
  rw [cond_true,k1,Option.bind_some,bnd_ok k3 (by omega),List.getElem?_eq_getElem hrl,Option.bind_some,Option.bind_some]
  exact ⟨x0,n,L,y,(y.1+1,o.2.1,[(L[r.toNat].1,L[r.toNat].2.1)],o.2.2.2),rfl,hR,h2,h12,h60,rfl,by simp⟩
 | false=>
  rw [cond_false,Option.bind_some]
  exact ⟨x0,n,L,y,(y.1+1,o.2),rfl,hR,h2,h12,h60,rfl,hol⟩
theorem h_lsameWeb (W:Int × List Led) (h:W.2.length<=1048576):g_lsameWeb (W,W)=some (true,()):=by
 have hm:maxLen=9223372036854775807:=by decide
 show f_lsameWeb BIG _=_
 rw [e_lsameWeb,decide_eq_true (rfl:W.1=W.1),decide_eq_true (rfl:(W.2.length:Int)=W.2.length)]
 simp only [Bool.not_true,cond_false,Option.bind_some]
 refine loop_bind (P:=fun o=>o=some (true,())) (fun (j:Int)=>∃i:Nat,j=(i:Int)/\i<=W.2.length) (fun j=>W.2.length-j.toNat) (fun _ b=>b=Sum.inl ()) (by simp only [BIG];omega) ⟨0,rfl,by omega⟩ (fun self s hx hs => ?_) (fun b hb=>by rw [hb])
 obtain ⟨i,rfl,hi⟩:=hx
 by_cases hl:i<W.2.length
 ·rw [decide_eq_true (by omega),cond_true,bnd_nat hl,List.getElem?_eq_getElem hl]
  simp only [Option.bind_some,bnd_nat hl,List.getElem?_eq_getElem hl,decide_true,beq_self_eq_true,Bool.and_self,Bool.not_true,cond_false]
  rw [wr1 (by omega)]
  exact hs _ ⟨i+1,rfl,by omega⟩ (by omega)
 ·rw [decide_eq_false (by omega),cond_false]
  exact ⟨_,rfl,rfl⟩
theorem WOk.srt {n:Nat} {L:List Led} (h:WOk n L):Srt (gE L):=by
 have hg:=h.gr
 unfold grB at hg
 rw [Bool.and_eq_true] at hg
 exact (eOk_srt hg.2).2.1
theorem flt_len (p:Ed->Bool):∀l:List Ed,(l.filter fun x=>!p x).length+(l.filter p).length=l.length
 | []=>rfl
 | x::l=>by
  have:=flt_len p l
  cases h:p x with
  | true=>rw [List.filter_cons_of_neg (by simp [h]),List.filter_cons_of_pos h,List.length_cons,List.length_cons];omega
  | false=>rw [List.filter_cons_of_pos (by simp [h]),List.filter_cons_of_neg (by simp [h]),List.length_cons,List.length_cons];omega
theorem law_lFnReleases (a:List Int) (h:a.length<=maxLen):g_lFnReleases a=some (true,()):=by
 have hm:maxLen=9223372036854775807:=by decide
 show f_lFnReleases BIG _=_
 rw [e_lFnReleases,h_lbig,Option.bind_some]
 by_cases ha:a.length<=1048576
 case neg=>rw [decide_eq_true (by omega)];rfl
 rw [decide_eq_false (by omega),cond_false]
 obtain ⟨x0,n,L,y,o,k1,hR,h2,h12,h60,_,_⟩:=h_sDrawRightShard a ha
 obtain ⟨p,k2,hp,hp'⟩:=h_sDrawPlaces a ha
 have hlen:=hR.len
 have hp0:0<p.length:=by omega
 have hpb:=hp' _ (List.getElem_mem hp0)
 rw [k1,Option.bind_some,k2,Option.bind_some]
 simp only
 have hb0:∀{β:Type} (F:Nat->Option β),bnd p.length (0:Int) F=F 0:=fun F=>bnd_nat (i:=0) hp0
 rw [hb0,List.getElem?_eq_getElem hp0,Option.bind_some,decide_eq_false (show ¬((n:Int)=0) by omega),cond_false]
 have hv1:=Int.tmod_nonneg (n:Int) hpb.1
 have hv2:=Int.tmod_lt_of_pos p[0] (show (0:Int)<n by omega)
 generalize hv:Int.tmod p[0] (n:Int)=v at hv1 hv2 ⊢
 have hmap:∀L:List Led,(L.map fun x=>(x.1,x.2.1))=gE L:=fun _=>rfl
 rw [h_iOwned x0 n L y.1 y.2.1 y.2.2.1 y.2.2.2 (by omega),Option.bind_some,hmap,wr (n:=y.1+1) (by omega) (by omega)]
 have hord:ordB n (y.1+1,3,[],v)=true:=ord_of ⟨h2,h12⟩ (by simp only;omega) (.inr (.inl ⟨rfl,rfl,hv1,hv2⟩)) (gr_nil ⟨h2,h12⟩)
 have hgl:(gE L).length=L.length:=by unfold gE;rw [List.length_map]
 rcases obey_right hR (y.1+1,3,[],v) (by simp) with ⟨_,_,q|q⟩|⟨_,_,_,q⟩|⟨_,q,L',z,g1,g2,hR',hD⟩
 ·rw [hord] at q;cases q
 ·exact absurd rfl q.2
 ·simp only at q;omega
 obtain ⟨d1,d2,d3,d4⟩:=hD.rel rfl
 simp only at d1 d3
 have hlen':=hR'.len
 have hz1:z.1=y.1+1:=hD.num
 rw [g1,Option.bind_some]
 unfold accO
 rw [d2]
 simp only [decide_true,Bool.not_true,cond_false,Option.bind_some]
 rw [h_iOwned x0 n L' z.1 true z.2.2.1 z.2.2.2 (by omega),Option.bind_some,hmap]
 have hgl':(gE L').length=L'.length:=by unfold gE;rw [List.length_map]
 refine loop_bind (P:=fun o=>o=some (true,())) (fun (j:Int)=>∃i:Nat,j=(i:Int)/\i<=(gE L).length) (fun j=>(gE L).length-j.toNat) (fun _ b=>b=Sum.inl ()) (by simp only [BIG];omega) ⟨0,rfl,by omega⟩ (fun self s hx hs => ?_) (fun b hb => ?_)
 ·obtain ⟨i,rfl,hi⟩:=hx
  by_cases hl:i<(gE L).length
  ·have hin:=List.getElem_mem hl
   have hc:(bif decide ((gE L)[i].1=v) then some true else bnd (gE L).length (i:Int) fun n13=>Option.bind (gE L)[n13]? fun y14=>some (decide (y14.2=v)):Option Bool)=some (atV v (gE L)[i]):=by
    unfold atV
    by_cases h1:(gE L)[i].1=v
    ·rw [decide_eq_true h1,cond_true,decide_eq_true (.inl h1)]
    ·rw [decide_eq_false h1,cond_false,bnd_nat hl,List.getElem?_eq_getElem hl,Option.bind_some]
     by_cases h2:(gE L)[i].2=v
     ·rw [decide_eq_true h2,decide_eq_true (.inr h2)]
     ·rw [decide_eq_false h2,decide_eq_false (by rintro (h|h);exact h1 h;exact h2 h)]
   have e1:decide ((gE L)[i]∈z.2.2.1)=atV v (gE L)[i]:=by
    rw [d3]
    cases hat:atV v (gE L)[i] with
    | true=>exact decide_eq_true (List.mem_filter.2 ⟨hin,hat⟩)
    | false=>exact decide_eq_false (fun h=>by rw [(List.mem_filter.1 h).2] at hat;cases hat)
   have e2:decide ((gE L)[i]∈gE L') = !atV v (gE L)[i]:=by
    cases hat:atV v (gE L)[i] with
    | true=>exact decide_eq_false (fun h=>by rw [((d1 _).1 h).2] at hat;cases hat)
    | false=>exact decide_eq_true ((d1 _).2 ⟨hin,hat⟩)
   rw [decide_eq_true (by omega),cond_true,bnd_nat hl,List.getElem?_eq_getElem hl,Option.bind_some,hc,Option.bind_some,bnd_nat hl,List.getElem?_eq_getElem hl,Option.bind_some,h_lhas z.2.2.1 _ (by omega),Option.bind_some,bnd_nat hl,List.getElem?_eq_getElem hl,Option.bind_some,h_lhas (gE L') _ (by omega),Option.bind_some,e1,e2]
   have hb:∀b:Bool,(b == b)=true/\((!b) == b)=false:=by decide
   simp only [(hb _).1,(hb _).2,Bool.not_true,cond_false,Option.bind_some]
   rw [wr1 (by omega)]
   exact hs _ ⟨i+1,rfl,by omega⟩ (by omega)
  ·rw [decide_eq_false (by omega),cond_false]
   exact ⟨_,rfl,rfl⟩
 ·rw [hb]
  simp only
  have hnot:gE L'=(gE L).filter fun x=>!atV v x:=srt_eq hR'.web.srt (hR.web.srt.filter _) fun x=>by
   rw [d1,List.mem_filter,Bool.not_eq_true']
  have hcnt:(gE L').length+z.2.2.1.length=(gE L).length:=by
   rw [hnot,d3]
   exact flt_len _ _
  rw [wr (n:=((gE L').length:Int)+(z.2.2.1.length:Int)) (by omega) (by omega),decide_eq_true (show ((gE L').length:Int)+(z.2.2.1.length:Int)=((gE L).length:Int) by omega)]
  simp only [Bool.not_true,cond_false]
  by_cases h0:z.2.2.1=[]
  ·rw [decide_eq_true (show ((z.2.2.1.length:Int))=0 by rw [h0];rfl),cond_true,d4 h0,h_lsameWeb ((n:Int),L) (by simp only;omega)]
   rfl
  ·have hpos:0<z.2.2.1.length:=List.length_pos_iff.2 h0
   rw [decide_eq_false (show ¬((z.2.2.1.length:Int))=0 by omega),cond_false,hz1,wr (n:=y.1+1+1) (by omega) (by omega)]
   have hG:=of_gr hR.web.gr h2
   have hesg:GrOk n z.2.2.1:=by
    rw [d3]
    exact ⟨hG.1,hG.2.1,hG.2.2.1.filter _,fun e he=>hG.2.2.2 e (List.mem_filter.1 he).1⟩
   have hord2:ordB n (y.1+1+1,4,z.2.2.1,0)=true:=ord_of ⟨h2,h12⟩ (by simp only;omega) (.inr (.inr ⟨rfl,h0,rfl⟩)) hesg
   have hzz:(y.1+1,true,z.2.2.1,z.2.2.2)=z:=by rw [<-hz1,<-d2]
   rw [hzz]
   rcases obey_right hR' (y.1+1+1,4,z.2.2.1,0) (by simp only;omega) with ⟨_,_,q|q⟩|⟨_,_,_,q⟩|⟨_,q,L2,w,g3,g4,hR2,hD2⟩
   ·rw [hord2] at q;cases q
   ·exact absurd (by rw [hz1]) q.2
   ·simp only at q;omega
   obtain ⟨a1,a2,_,_⟩:=hD2.add (.inr rfl)
   simp only at a1 a2
   have hdis:∀x,x∈z.2.2.1->x∉gE L':=fun x hx hx'=>by
    rw [d3] at hx
    have:=(List.mem_filter.1 hx).2
    rw [((d1 x).1 hx').2] at this
    cases this
   have hall:gE L2=gE L:=srt_eq hR2.web.srt hR.web.srt fun x=>by
    rw [a1,d1,d3,List.mem_filter]
    constructor
    ·rintro (h|h)
     ·exact h.1
     ·exact h.1
    ·intro h
     cases hat:atV v x with
     | true=>exact .inr ⟨h,rfl⟩
     | false=>exact .inl ⟨h,rfl⟩
   have hlen2:=hR2.len
   have hl2:w.2.2.2=labs n (gE L):=by rw [hD2.lab,hR2.web.labs,hall]
   have hgi:g_sGraphOf ((n:Int),L)=some (((n:Int),gE L),()):=h_sGraphOf n L (by omega)
   have hg3:g_sLabels ((n:Int),gE L)=some (labs n (gE L),()):=by rw [h_sLabels n (gE L) (by omega),if_pos hR.web.gr]
   have i3:=h_lsameInts (labs n (gE L)) (labs n (gE L)) (by rw [labs_len];omega)
   have i4:=h_lsameEdges (gE L) (gE L) (by omega)
   rw [decide_eq_true rfl] at i3 i4
   rw [g3,Option.bind_some]
   unfold accO
   simp only [decide_true,cond_true]
   rw [a2 hdis,cond_true,h_iOwned x0 n L2 w.1 true w.2.2.1 w.2.2.2 (by omega),Option.bind_some,hmap,hall,i4]
   simp only [Option.bind_some,cond_true,hgi,hg3,hl2,i3]
end Go.Fw
