/- What the given functions come to. No conditions. -/
import Derived.Test.YtlolhpdimikcdaaGreatM0
set_option linter.unusedVariables false
set_option linter.unusedSimpArgs false
set_option linter.unusedSectionVars false
namespace Go.Fw
def wlW (l:List Int):List Ed:=(wlV l).filter fun e=>decide (e.1<e.2)
theorem unE_filter:∀(E:List Ed) (s:List Int),(∀e,e∈E->e.1<=e.2)->(E.filter fun e=>decide (e.1<e.2)).foldl unE s=E.foldl unE s
 | [],s,_=>rfl
 | e::E,s,h=>by
  rw [List.filter_cons];by_cases he:e.1<e.2
  ·rw [decide_eq_true he,if_pos rfl,List.foldl_cons,List.foldl_cons];exact unE_filter E _ fun e' he'=>h e' (List.mem_cons_of_mem _ he')
  ·have h1:=h e (List.mem_cons_self ..);have h2:e.1=e.2:=by omega
   rw [decide_eq_false he,if_neg (by simp),List.foldl_cons,show unE s e=s from by unfold unE;rw [h2,unL_same]];exact unE_filter E s fun e' he'=>h e' (List.mem_cons_of_mem _ he')
theorem wl_labs {n:Nat} {L:List (List Int)} (cuts:List Ed) (h:L.all (pL n)=true):labs n (L.flatMap wlW++cuts)=labs n (L.flatMap wlV++cuts):=by
 unfold labs;rw [List.foldl_append,List.foldl_append];congr 1;have e1:L.flatMap wlW=(L.flatMap wlV).filter fun e=>decide (e.1<e.2):=by
  rw [List.filter_flatMap];rfl
 rw [e1,unE_filter];intro e he;obtain ⟨l,hl,hel⟩:=List.mem_flatMap.1 he;have h1:=List.all_eq_true.1 h l hl;simp only [pL,Bool.and_eq_true,decide_eq_true_eq] at h1;obtain ⟨p,hp,rfl⟩:=List.mem_map.1 hel;have h2:=List.all_eq_true.1 h1.2 p hp;rw [inB_t] at h2;exact h2.2
theorem wl_in {n:Nat} {L:List (List Int)} {cuts:List Ed} (h:L.all (pL n)=true) (hc:cuts.all (edB n)=true):EIn n (L.flatMap wlW++cuts):=by
 intro e he;rcases List.mem_append.1 he with he|he
 ·obtain ⟨l,hl,hel⟩:=List.mem_flatMap.1 he;have h1:=List.all_eq_true.1 h l hl;simp only [pL,Bool.and_eq_true,decide_eq_true_eq] at h1;exact vP_in (by omega) h1.2 e (List.mem_filter.1 hel).1
 ·have:=edB_in (List.all_eq_true.1 hc e he);exact ⟨this.1,this.2.1,this.2.2.1,this.2.2.2.1⟩
theorem fold_wlW:∀(l:List (Int × Nat)) (s:List Ed),l.foldl (fun (s:List Ed) p=>if p.1<(p.2:Int) then s++[(p.1,(p.2:Int))] else s) s=s++((l.map fun p=>(p.1,(p.2:Int))).filter fun e=>decide (e.1<e.2))
 | [],s=>by simp
 | p::l,s=>by
  rw [List.foldl_cons,fold_wlW l,List.map_cons,List.filter_cons];by_cases h:p.1<(p.2:Int)
  ·simp [h]
  ·simp [h]
theorem foldl_app {α β:Type} (f:α->List β):∀(L:List α) (s:List β),L.foldl (fun s l=>s++f l) s=s++L.flatMap f
 | [],s=>by simp
 | l::L,s=>by rw [List.foldl_cons,foldl_app f L,List.flatMap_cons,List.append_assoc]
theorem w_sWholeLabels (n:Int) (L:List (List Int)) (cuts:List Ed) (hL:L.length<=1048576) (hc:cuts.length<=1048576):g_sWholeLabels (n,L,cuts)=some (if cuts.length<=1000 then wlR n L cuts else ([],false),()):=by
 have hm:maxLen=9223372036854775807:=by decide
 show f_sWholeLabels BIG _=_;rw [e_sWholeLabels,h_sl01In'];unfold wlR wlB;cases hn:inB n 1 12 with
 | false=>simp
 | true=>
  rw [inB_t] at hn;obtain ⟨k,rfl⟩:∃k:Nat,n=(k:Int):=⟨n.toNat,by omega⟩
  by_cases h3:L.length<=3;case neg=>rw [decide_eq_false h3];simp only [Option.bind_some,Bool.not_true,cond_false];rw [decide_eq_true (by omega)];simp
  rw [decide_eq_true h3];simp only [Option.bind_some,Bool.not_true,cond_false,Bool.true_and];rw [decide_eq_false (show ¬(3:Int)<(L.length:Int) from by omega),cond_false];by_cases h1000:cuts.length<=1000;case neg=>rw [decide_eq_true (by omega),if_neg h1000];rfl
  rw [decide_eq_false (by omega),if_pos h1000];simp only [Option.bind_some,cond_false];rw [exitLoop L (by omega) (fun i (s:List Ed)=>s.length<=12*i) (fun s l=>if pL k l=true then some (s++wlW l) else none) (([],false):List Int × Bool) (by simp) (fun i s y s' hy hs he=>by
   split at he
   ·rename_i hp
    cases he
    simp only [pL,Bool.and_eq_true,decide_eq_true_eq] at hp
    have h4:(wlW y).length<=y.length:=by
     unfold wlW wlV
     refine Nat.le_trans (List.length_filter_le _ _) ?_
     simp
    rw [List.length_append];omega
   ·cases he) (fun self s i y hy hs => ?_) (fun self s hs=>by simp)]
  ·rw [fM_all];cases hall:L.all (pL k) with
   | false=>rfl
   | true=>
    simp only [if_true,Option.bind_some,foldl_app,Bool.true_and,List.nil_append];have hfl:(L.flatMap wlW).length<=36:=by
     have:∀M:List (List Int),M.all (pL k)=true->(M.flatMap wlW).length<=12*M.length:=by
      intro M;induction M with
      | nil=>intro _;simp
      | cons y M ih=>
       intro h;simp only [List.all_cons,Bool.and_eq_true] at h;have h5:=ih h.2;have hp:=h.1;simp only [pL,Bool.and_eq_true,decide_eq_true_eq] at hp;have h4:(wlW y).length<=y.length:=by
        unfold wlW wlV;refine Nat.le_trans (List.length_filter_le _ _) ?_;simp
       rw [List.flatMap_cons,List.length_append,List.length_cons];omega
     have:=this L hall;omega
    rw [exitLoop cuts (by omega) (fun i (s:List Ed)=>s.length<=36+i) (fun s e=>if edB k e=true then some (s++[e]) else none) (([],false):List Int × Bool) (by omega) (fun i s y s' hy hs he=>by
     split at he
     ·cases he;simp;omega
     ·cases he) (fun self s i y hy hs => ?_) (fun self s hs=>by simp)]
    ·rw [fM_all];cases hcall:cuts.all (edB k) with
     | false=>rfl
     | true=>
      have hfold:∀(l:List Ed) (s:List Ed),l.foldl (fun s e=>s++[e]) s=s++l:=by
       intro l;induction l with
       | nil=>intro s;simp
       | cons e l ih=>intro s;rw [List.foldl_cons,ih];simp
      simp only [if_true,Option.bind_some,Int.toNat_natCast,hfold];rw [h_sl05Labels k _ (by omega) (wl_in hall hcall) (by rw [List.length_append];omega),Option.bind_some,wl_labs cuts hall]
    ·have hi:=(List.getElem?_eq_some_iff.1 hy).1;simp only [show ((i:Int)<(cuts.length:Int)) from by omega,decide_true,cond_true];rw [bnd_nat hi,hy,Option.bind_some,h_sEdgeOk,wr1 (by omega)];cases he:edB k y with
     | false=>rfl
     | true=>
      simp only [Option.bind_some,Bool.not_true,cond_false,if_true];rw [bnd_nat hi,hy,Option.bind_some,decide_eq_true (by simp only [List.length_cons,List.length_nil];omega)];rfl
  ·have hi:=(List.getElem?_eq_some_iff.1 hy).1;simp only [show ((i:Int)<(L.length:Int)) from by omega,decide_true,cond_true];rw [bnd_nat hi,hy,Option.bind_some,wr1 (by omega)];by_cases hlen:(y.length:Int)=(k:Int)
   case neg=>unfold pL;rw [decide_eq_false hlen];rfl
   rw [decide_eq_true hlen,Bool.not_true,cond_false];have hz:(y.zipIdx).length=y.length:=List.length_zipIdx;rw [exitLoop y.zipIdx (by omega) (fun j (t:List Ed)=>t.length<=12*i+j) (fun s p=>if inB p.1 0 (p.2:Int)=true then some (if p.1<(p.2:Int) then s++[(p.1,(p.2:Int))] else s) else none) (([],false):List Int × Bool) (by omega) (fun i s y s' hy hs he=>by
    split at he
    ·cases he
     split
     ·simp;omega
     ·omega
    ·cases he) (fun self s j p hp hs => ?_) (fun self s hs=>by simp only [hz,show ¬((y.length:Int)<(k:Int)) from by omega,decide_false,cond_false])]
   ·rw [fM_all];have e1:pL k y=vP y:=by unfold pL;rw [decide_eq_true hlen,Bool.true_and]
    rw [e1];unfold vP wlW wlV;cases y.zipIdx.all fun p=>inB p.1 0 (p.2:Int) with
    | false=>rfl
    | true=>simp only [if_true,Option.bind_some,fold_wlW]
   ·obtain ⟨hp1,hp2⟩:=zip_at hp;have hj:=(List.getElem?_eq_some_iff.1 hp1).1;obtain ⟨x,v⟩:=p;simp only at hp1 hp2;subst hp2;simp only [show ((v:Int)<(k:Int)) from by omega,decide_true,cond_true];rw [wr1 (by omega)];simp only [bnd_nat hi,hy,Option.bind_some,bnd_nat hj,hp1,h_sl01In'];cases hx:inB x 0 (v:Int) with
    | false=>rfl
    | true=>
     simp only [Bool.not_true,cond_false,if_true];by_cases hxv:x<(v:Int)
     ·rw [decide_eq_true hxv,cond_true,if_pos hxv,decide_eq_true (by simp only [List.length_cons,List.length_nil];omega),cond_true];rfl
     ·rw [decide_eq_false hxv,cond_false,if_neg hxv];rfl
abbrev HdI:=Int × List Int × List (Int × Int) × List (List Int) × List Int × Int × Int × Int × Int × Int × Int × Int × List (Int × Int) × Int × List (Int × Int × Int × Int × Int × Int) × Int
theorem fold_rows (L:List (List Int)) (s:Hd):L.foldl (fun (s:Hd) y=>(s.1,s.2.1,s.2.2.1,s.2.2.2.1++[y],s.2.2.2.2)) s=(s.1,s.2.1,s.2.2.1,s.2.2.2.1++L,s.2.2.2.2):=by
 induction L generalizing s with
 | nil=>simp
 | cons y L ih=>rw [List.foldl_cons,ih];simp
theorem w_icopyInts (l:List Int) (h:l.length<=1048576):g_icopyInts l=some (l,()):=by
 show f_icopyInts BIG _=_;rw [e_icopyInts,decide_eq_true (by omega)];rfl
theorem w_icopyHead (x0:Int) (x1:List Int) (x2:List Ed) (x3:List (List Int)) (x4:List Int) (x5 x6 x7 x8 x9 x10 x11:Int) (x12:List Ed) (x13:Int) (x14:List Sd) (h1:x1.length<=1048576) (h2:x2.length<=1048576) (h3:x3.length<=1048576/\∀y,y∈x3->y.length<=1048576) (h4:x4.length<=1048576) (h12:x12.length<=1048576) (h14:x14.length<=1048576) :
  g_icopyHead (x0,x1,x2,x3,x4,x5,x6,x7,x8,x9,x10,x11,x12,x13,x14)=some ((x0,x1,x2,x3,x4,x5,x6,x7,x8,x9,x10,x11,x12,x13,x14),()):=by
 have hm:maxLen=9223372036854775807:=by decide
 show f_icopyHead BIG _=_;rw [e_icopyHead];dsimp only;have ht:g_icopyTask (x5,x6,x7,x8,x9,x10,x11,x12,x13)=some ((x5,x6,x7,x8,x9,x10,x11,x12,x13),()):=by
  show f_icopyTask BIG _=_;rw [e_icopyTask,h_icopyEdges x12 h12];rfl
 rw [w_icopyInts x1 h1,Option.bind_some,h_icopyEdges x2 h2,Option.bind_some,w_icopyInts x4 h4,Option.bind_some,ht,Option.bind_some,decide_eq_true (by omega),cond_true];rw [foldLoop x3 (by omega) (fun i (s:Hd)=>s.2.2.2.1.length=i) (fun (s:Hd) y=>(s.1,s.2.1,s.2.2.1,s.2.2.2.1++[y],s.2.2.2.2)) id rfl (fun i s y _ h=>by simp only [List.length_append,List.length_cons,List.length_nil];omega) (fun self s i y hy hs => ?_) (fun self s _=>by simp)]
 ·rw [fold_rows];simp
 ·have hi:=(List.getElem?_eq_some_iff.1 hy).1;simp only [show ((i:Int)<(x3.length:Int)) from by omega,decide_true,cond_true];rw [bnd_nat hi,hy,Option.bind_some,w_icopyInts y (h3.2 y (List.mem_of_getElem? hy)),Option.bind_some,decide_eq_true (by simp only [List.length_cons,List.length_nil];omega),cond_true,wr1 (by omega)]
theorem w_sl12Copy (x0:Int) (x1:List Int) (x2:List Ed) (x3:List (List Int)) (x4:List Int) (x5 x6 x7 x8 x9 x10 x11:Int) (x12:List Ed) (x13:Int) (x14:List Sd) (h1:x1.length<=1048576) (h2:x2.length<=1048576) (h3:x3.length<=1048576/\∀y,y∈x3->y.length<=1048576) (h4:x4.length<=1048576) (h12:x12.length<=1048576) (h14:x14.length<=1048576) :
  g_sl12Copy (x0,x1,x2,x3,x4,x5,x6,x7,x8,x9,x10,x11,x12,x13,x14)=some ((x0,x1,x2,x3,x4,x5,x6,x7,x8,x9,x10,x11,x12,x13,x14),()):=by
 have hm:maxLen=9223372036854775807:=by decide
 show f_sl12Copy BIG _=_;rw [e_sl12Copy];dsimp only;have ho:g_sl09CopyOrder (x10,x11,x12,x13)=some ((x10,x11,x12,x13),()):=by
  show f_sl09CopyOrder BIG _=_;rw [e_sl09CopyOrder,decide_eq_true (by simp;omega)];rfl
 rw [decide_eq_true (by simp;omega),cond_true,decide_eq_true (by simp;omega),cond_true,decide_eq_true (by simp;omega),cond_true,decide_eq_true (by simp;omega),cond_true];rw [foldLoop x3 (by omega) (fun i (s:List (List Int))=>s.length=i) (fun s y=>s++[y]) id rfl (fun i s y _ h=>by simp only [List.length_append,List.length_cons,List.length_nil];omega) (fun self s i y hy hs => ?_) (fun self s _=>by simp)]
 ·rw [Option.bind_some,ho,Option.bind_some];have hf:∀(L s:List (List Int)),L.foldl (fun s y=>s++[y]) s=s++L:=by
   intro L;induction L with
   | nil=>intro s;simp
   | cons y L ih=>intro s;rw [List.foldl_cons,ih];simp
  rw [hf];simp
 ·have hi:=(List.getElem?_eq_some_iff.1 hy).1;have hy3:=h3.2 y (List.mem_of_getElem? hy);simp only [show ((i:Int)<(x3.length:Int)) from by omega,decide_true,cond_true];rw [bnd_nat hi,hy,Option.bind_some,decide_eq_true (by simp;omega),cond_true,decide_eq_true (by simp only [List.length_cons,List.length_nil];omega),cond_true,wr1 (by omega),List.nil_append]
def sayT (x0:Int) (x1:List Int) (x2:List Ed) (x3:List (List Int)) (x4:List Int) (x14:List Sd) (i op a b v:Int):HdI:=(x0,x1,x2,x3,x4,0,0,0,0,0,0,0,[],0,x14++[(i,i,op,a,b,v)],1)
def ordT (x0:Int) (x1:List Int) (x2:List Ed) (x3:List (List Int)) (x4:List Int) (x14:List Sd) (i op a b sh o:Int) (es:List Ed) (v:Int):HdI:=(x0,x1,x2,x3,x4,i,op,a,b,sh,x4.getD (sh-1).toNat 0+1,o,es,v,x14,2)
def tkE (x0:Int) (x1:List Int) (x2:List Ed) (x3:List (List Int)) (x4:List Int) (x14:List Sd) (i op a b:Int):HdI:=
 if x1.getD (edO a b).1.toNat 0=x1.getD (edO a b).2.toNat 0 then ordT x0 x1 x2 x3 x4 x14 i op a b (x1.getD (edO a b).1.toNat 0) (if op=2 then 2 else 1) [edO a b] 0
 else if (decide (edO a b∈x2) == decide (op=1))=true then sayT x0 x1 x2 x3 x4 x14 i op a b 2
 else sayT x0 x1 (if edO a b∈x2 then del x2 (edO a b) else ins x2 (edO a b)) x3 x4 x14 i op a b 1
def tkM (x0:Int) (x1:List Int) (x2:List Ed) (x3:List (List Int)) (x4:List Int) (x14:List Sd) (i op a b:Int):HdI:=
 if rtB x0 x3.length op a b=false then sayT x0 x1 x2 x3 x4 x14 i op a b 3
 else if op=3 then sayT x0 x1 x2 x3 x4 x14 i op a b (if (wlR x0 x3 x2).1.getD a.toNat 0=(wlR x0 x3 x2).1.getD b.toNat 0 then 1 else 2)
 else if op=4 then (if x1.getD a.toNat 0=b then sayT x0 x1 x2 x3 x4 x14 i op a b 2 else ordT x0 x1 x2 x3 x4 x14 i op a b (x1.getD a.toNat 0) 3 [] a)
 else tkE x0 x1 x2 x3 x4 x14 i op a b
structure HdF (x0:Int) (x1:List Int) (x2:List Ed) (x3:List (List Int)) (x4:List Int) (x14:List Sd):Prop where
 n:1<=x0/\x0<=12
 k:1<=x3.length/\x3.length<=3
 nums:x4.length=x3.length
 own:(x1.length:Int)=x0
 cuts:eOk x0 x2=true
 said:x14.length<=80
 o1:∀i,i<x1.length->1<=x1.getD i 0/\x1.getD i 0<=x3.length
 o3:∀i,i<x3.length->lbOk x0 (x3.getD i [])=true/\0<=x4.getD i 0/\x4.getD i 0<=99991
theorem hd_F {x0:Int} {x1:List Int} {x2:List Ed} {x3:List (List Int)} {x4:List Int} {x14:List Sd} {t:Bool} (h:hdB x0 x1 x2 x3 x4 x14 t=true):HdF x0 x1 x2 x3 x4 x14/\t=true:=by
 unfold hdB at h;have h':=of_decide_eq_true h;obtain ⟨⟨a1,a2,a3⟩,a4,⟨a5,a6⟩,a7,a8,⟨a9,a10⟩,a11⟩:=h';rw [inB_t] at a1 a2;refine ⟨⟨a1,by omega,a3,a5,a6,a10,fun i hi => ?_,fun i hi => ?_⟩,a11⟩
 ·have:=a7 i hi;unfold p1 at this;rw [inB_t] at this;exact this
 ·have:=a4 i hi;unfold p3 at this;rw [Bool.and_eq_true,inB_t] at this;exact this
theorem lb_vP {n:Int} {l:List Int} (h:lbOk n l=true):pL n l=true:=by
 unfold lbOk at h;split at h;case isFalse=>cases h
 case isTrue hn=>
 split at h;case isFalse=>cases h
 case isTrue hp=>
 unfold pL;rw [decide_eq_true hn,Bool.true_and];unfold vP;rw [List.all_eq_true];intro p hpm;obtain ⟨i,hi,rfl⟩:=List.getElem_of_mem hpm;obtain ⟨h1,h2⟩:=zip_at (List.getElem?_eq_getElem hi);rw [List.length_zipIdx] at hi;have h3:=hp i hi;unfold lbP at h3;rw [h1] at h3;simp only [Bool.and_eq_true] at h3;rw [h2];exact h3.1
theorem HdF.wl {x0:Int} {x1:List Int} {x2:List Ed} {x3:List (List Int)} {x4:List Int} {x14:List Sd} (h:HdF x0 x1 x2 x3 x4 x14):wlB x0 x3 x2=true:=by
 unfold wlB;rw [inB_t.2 h.n,decide_eq_true h.k.2,Bool.true_and,Bool.true_and,Bool.and_eq_true,List.all_eq_true,List.all_eq_true];refine ⟨fun l hl => ?_,(eOk_srt h.cuts).1⟩;obtain ⟨i,hi,rfl⟩:=List.getElem_of_mem hl;have:=(h.o3 i hi).1;rw [gD (List.getElem?_eq_getElem hi)] at this;exact lb_vP this
theorem HdF.wl_len {x0:Int} {x1:List Int} {x2:List Ed} {x3:List (List Int)} {x4:List Int} {x14:List Sd} (h:HdF x0 x1 x2 x3 x4 x14):((wlR x0 x3 x2).1.length:Int)=x0:=by
 unfold wlR;rw [if_pos h.wl];have:=h.n;simp only [labs_len];omega
section
variable {x0:Int} {x1:List Int} {x2:List Ed} {x3:List (List Int)} {x4:List Int} {x14:List Sd}
theorem w_iHead_say (x5 x6 x7 x8 x9 x10 x11:Int) (x12:List Ed) (x13:Int) (i op a b v:Int) (h:x14.length<=1048576):g_iHead_say ((x0,x1,x2,x3,x4,x5,x6,x7,x8,x9,x10,x11,x12,x13,x14),(i,op,a,b),v)=some (1,(x0,x1,x2,x3,x4,x5,x6,x7,x8,x9,x10,x11,x12,x13,x14++[(i,i,op,a,b,v)])):=by
 show f_iHead_say BIG _=_;rw [e_iHead_say];dsimp only;rw [decide_eq_true (by simp only [List.length_cons,List.length_nil];omega),cond_true]
theorem w_sl12Say (x5 x6 x7 x8 x9 x10 x11:Int) (x12:List Ed) (x13:Int) (i op a b v:Int) (h:x14.length<=1048576):g_sl12Say ((x0,x1,x2,x3,x4,x5,x6,x7,x8,x9,x10,x11,x12,x13,x14),(i,op,a,b),v)=some ((),(x0,x1,x2,x3,x4,0,0,0,0,0,0,0,[],0,x14++[(i,i,op,a,b,v)])):=by
 show f_sl12Say BIG _=_;rw [e_sl12Say];dsimp only;rw [decide_eq_true (by simp only [List.length_cons,List.length_nil];omega),cond_true]
theorem HdF.num (h:HdF x0 x1 x2 x3 x4 x14) {sh:Int} (h1:1<=sh) (h2:sh<=x3.length):IntKind.wrap .i64 (sh-1)=sh-1/\0<=sh-1/\sh-1<x4.length/\x4[(sh-1).toNat]?=some (x4.getD (sh-1).toNat 0)/\IntKind.wrap .i64 (x4.getD (sh-1).toNat 0+1)=x4.getD (sh-1).toNat 0+1:=by
 have hk:=h.k;have hn:=h.nums;have h3:=h.o3 (sh-1).toNat (by omega);exact ⟨wr (by omega) (by omega),by omega,by omega,getD_at (by omega),wr (by omega) (by omega)⟩
theorem w_iHead_order (h:HdF x0 x1 x2 x3 x4 x14) (x5 x6 x7 x8 x9 x10 x11:Int) (x12:List Ed) (x13:Int) (i op a b sh q o:Int) (es:List Ed) (v:Int) (h1:1<=sh) (h2:sh<=x3.length):g_iHead_order ((x0,x1,x2,x3,x4,x5,x6,x7,x8,x9,x10,x11,x12,x13,x14),(i,op,a,b),sh,(q,o,es,v))=some (2,(x0,x1,x2,x3,x4,i,op,a,b,sh,x4.getD (sh-1).toNat 0+1,o,es,v,x14)):=by
 obtain ⟨g1,g2,g3,g4,g5⟩:=h.num h1 h2;show f_iHead_order BIG _=_;rw [e_iHead_order];dsimp only;rw [g1,bnd_ok g2 g3,g4,Option.bind_some,g5]
theorem w_sl12Task (h:HdF x0 x1 x2 x3 x4 x14) (x5 x6 x7 x8 x9 x10 x11:Int) (x12:List Ed) (x13:Int) (i op a b sh q o:Int) (es:List Ed) (v:Int) (h1:1<=sh) (h2:sh<=x3.length):g_sl12Task ((x0,x1,x2,x3,x4,x5,x6,x7,x8,x9,x10,x11,x12,x13,x14),(i,op,a,b),sh,(q,o,es,v))=some (2,(x0,x1,x2,x3,x4,i,op,a,b,sh,x4.getD (sh-1).toNat 0+1,o,es,v,x14)):=by
 obtain ⟨g1,g2,g3,g4,g5⟩:=h.num h1 h2;show f_sl12Task BIG _=_;rw [e_sl12Task];dsimp only;rw [g1,bnd_ok g2 g3,g4,Option.bind_some,g5]
theorem HdF.at (h:HdF x0 x1 x2 x3 x4 x14) {v:Int} (h1:0<=v) (h2:v<=x0-1):v<x1.length/\x1[v.toNat]?=some (x1.getD v.toNat 0)/\1<=x1.getD v.toNat 0/\x1.getD v.toNat 0<=x3.length:=by
 have ho:=h.own;have:=h.o1 v.toNat (by omega);exact ⟨by omega,getD_at (by omega),this.1,this.2⟩
theorem edO_in {a b n:Int} (ha:0<=a/\a<=n) (hb:0<=b/\b<=n):(0<=(edO a b).1/\(edO a b).1<=n)/\(0<=(edO a b).2/\(edO a b).2<=n):=by
 unfold edO;split<;>exact ⟨by simpa,by simpa⟩
def frt:HdI->Int × Hd:=fun h=>(h.2.2.2.2.2.2.2.2.2.2.2.2.2.2.2,(h.1,h.2.1,h.2.2.1,h.2.2.2.1,h.2.2.2.2.1,h.2.2.2.2.2.1,h.2.2.2.2.2.2.1,h.2.2.2.2.2.2.2.1,h.2.2.2.2.2.2.2.2.1,h.2.2.2.2.2.2.2.2.2.1,h.2.2.2.2.2.2.2.2.2.2.1,h.2.2.2.2.2.2.2.2.2.2.2.1,h.2.2.2.2.2.2.2.2.2.2.2.2.1,h.2.2.2.2.2.2.2.2.2.2.2.2.2.1,h.2.2.2.2.2.2.2.2.2.2.2.2.2.2.1))
theorem w_iHead_edge (h:HdF x0 x1 x2 x3 x4 x14) (i op a b:Int) (hop:op=1\/op=2) (ha:0<=a/\a<=x0-1) (hb:0<=b/\b<=x0-1):g_iHead_edge ((x0,x1,x2,x3,x4,0,0,0,0,0,0,0,[],0,x14),(i,op,a,b))=some (frt (tkE x0 x1 x2 x3 x4 x14 i op a b)):=by
 have hm:maxLen=9223372036854775807:=by decide
 have hcl:=eOk_len h.cuts;have hsd:=h.said;obtain ⟨e1,e2⟩:=edO_in ha hb;obtain ⟨g1,g2,g3,g4⟩:=h.at e1.1 e1.2;obtain ⟨k1,k2,k3,k4⟩:=h.at e2.1 e2.2;show f_iHead_edge BIG _=_;rw [e_iHead_edge];dsimp only;rw [h_iedgeOf,Option.bind_some,h_ihasEdge _ _ (by omega),Option.bind_some];dsimp only;unfold tkE;generalize edO a b=e at *
 simp only [bnd_ok e1.1 g1,g2,Option.bind_some,bnd_ok e2.1 k1,k2];generalize hp:x1.getD e.1.toNat 0=p at *
 generalize hq:x1.getD e.2.toNat 0=q at *
 by_cases hpq:p=q
 ·subst hpq;rcases hop with rfl|rfl
  ·simp only [decide_true,cond_true,Option.bind_some,if_true];rw [w_iHead_order h _ _ _ _ _ _ _ _ _ _ _ _ _ _ _ _ _ _ g3 g4];rfl
  ·simp only [decide_true,cond_true,Option.bind_some,if_true,show decide ((2:Int)=1)=false from rfl,cond_false];rw [w_iHead_order h _ _ _ _ _ _ _ _ _ _ _ _ _ _ _ _ _ _ g3 g4];rfl
 ·simp only [decide_eq_false hpq,cond_false,Option.bind_some,if_neg hpq];by_cases hin:e∈x2
  ·rcases hop with rfl|rfl
   ·simp only [decide_eq_true hin,decide_true,cond_true,Bool.not_true,Option.bind_some,cond_false,show decide ((1:Int)=2)=false from rfl,beq_self_eq_true,if_true];rw [w_iHead_say _ _ _ _ _ _ _ _ _ _ _ _ _ _ (by omega)];rfl
   ·simp only [decide_eq_true hin,decide_true,cond_true,Bool.not_true,Option.bind_some,cond_false,show decide ((2:Int)=1)=false from rfl,show (true == false)=false from rfl,Bool.false_eq_true,if_false,if_pos hin];rw [w_iwithoutEdge _ _ (by omega),Option.bind_some,w_iHead_say _ _ _ _ _ _ _ _ _ _ _ _ _ _ (by omega)];rfl
  ·rcases hop with rfl|rfl
   ·simp only [decide_eq_false hin,decide_true,cond_true,Bool.not_false,Option.bind_some,cond_false,show (false == true)=false from rfl,Bool.false_eq_true,if_false,if_neg hin];rw [h_iwithEdge _ _ (by omega),fdI_ins (eOk_srt h.cuts).2.1 hin,Option.bind_some,w_iHead_say _ _ _ _ _ _ _ _ _ _ _ _ _ _ (by omega)];rfl
   ·simp only [decide_eq_false hin,decide_true,cond_true,Bool.not_false,Option.bind_some,cond_false,show decide ((2:Int)=1)=false from rfl,beq_self_eq_true,if_true];rw [w_iHead_say _ _ _ _ _ _ _ _ _ _ _ _ _ _ (by omega)];rfl
theorem w_sl12Change (h:HdF x0 x1 x2 x3 x4 x14) (i op a b:Int) (hop:op=1\/op=2) (ha:0<=a/\a<=x0-1) (hb:0<=b/\b<=x0-1):g_sl12Change ((x0,x1,x2,x3,x4,0,0,0,0,0,0,0,[],0,x14),(i,op,a,b))=some (frt (tkE x0 x1 x2 x3 x4 x14 i op a b)):=by
 have hm:maxLen=9223372036854775807:=by decide
 have hcl:=eOk_len h.cuts;have hsd:=h.said;obtain ⟨e1,e2⟩:=edO_in ha hb;obtain ⟨g1,g2,g3,g4⟩:=h.at e1.1 e1.2;obtain ⟨k1,k2,k3,k4⟩:=h.at e2.1 e2.2;show f_sl12Change BIG _=_;rw [e_sl12Change];dsimp only;rw [h_sl12Edge,Option.bind_some];dsimp only;unfold tkE;generalize edO a b=e at *
 have hx:(bif decide (op=(2:Int)) then some (2:Int) else some (1:Int))=some (if op=2 then 2 else 1):=by
  rcases hop with rfl|rfl<;>rfl
 rw [hx,Option.bind_some];simp only [bnd_ok e1.1 g1,g2,Option.bind_some,bnd_ok e2.1 k1,k2];generalize hp:x1.getD e.1.toNat 0=p at *
 generalize hq:x1.getD e.2.toNat 0=q at *
 by_cases hpq:p=q
 ·subst hpq;simp only [decide_true,cond_true,if_true];rw [w_sl12Task h _ _ _ _ _ _ _ _ _ _ _ _ _ _ _ _ _ _ g3 g4];rfl
 ·simp only [decide_eq_false hpq,cond_false,if_neg hpq];rw [h_sl05Has _ _ (by omega),Option.bind_some];cases hc:(decide (e∈x2) == decide (op=1)) with
  | true=>
   simp only [cond_true,if_true];rw [w_sl12Say _ _ _ _ _ _ _ _ _ _ _ _ _ _ (by omega)];rfl
  | false=>
   simp only [cond_false,Bool.false_eq_true,if_false];by_cases hin:e∈x2
   ·simp only [decide_eq_true hin,cond_true,if_pos hin];rw [h_sl05Without _ _ (by omega),Option.bind_some,Option.bind_some,w_sl12Say _ _ _ _ _ _ _ _ _ _ _ _ _ _ (by omega)];rfl
   ·simp only [decide_eq_false hin,cond_false,if_neg hin];rw [h_sl05Put _ _ (by omega),Option.bind_some,Option.bind_some,w_sl12Say _ _ _ _ _ _ _ _ _ _ _ _ _ _ (by omega)];rfl
theorem rt_in {n:Int} {k:Nat} {op a b:Int} (h:rtB n k op a b=true):(1<=op/\op<=4)/\(0<=a/\a<=n-1)/\(op=4->1<=b/\b<=k)/\(op≠4->0<=b/\b<=n-1):=by
 unfold rtB at h;simp only [Bool.and_eq_true,inB_t] at h;refine ⟨h.1,h.2.1,fun h4 => ?_,fun h4 => ?_⟩
 ·have:=h.2.2;rw [decide_eq_true h4,cond_true,inB_t] at this;exact this
 ·have:=h.2.2;rw [decide_eq_false h4,cond_false,Bool.and_eq_true,inB_t] at this;exact this.1
theorem w_iHead_take (h:HdF x0 x1 x2 x3 x4 x14) (i op a b:Int):g_iHead_take ((x0,x1,x2,x3,x4,0,0,0,0,0,0,0,[],0,x14),(i,op,a,b))=some (frt (tkM x0 x1 x2 x3 x4 x14 i op a b)):=by
 have hm:maxLen=9223372036854775807:=by decide
 have hcl:=eOk_len h.cuts;have hsd:=h.said;have hk:=h.k;show f_iHead_take BIG _=_;rw [e_iHead_take];dsimp only;rw [h_ibadAsk _ _ _ _ _ _ _ _ _ _ _ _ _ _ _ _ _ _ _ h.n,Option.bind_some];unfold tkM;cases hr:rtB x0 x3.length op a b with
 | false=>
  simp only [Bool.not_false,cond_true,if_true];rw [w_iHead_say _ _ _ _ _ _ _ _ _ _ _ _ _ _ (by omega)];rfl
 | true=>
  obtain ⟨r1,r2,r3,r4⟩:=rt_in hr;simp only [Bool.not_true,cond_false,Bool.true_eq_false,if_false];by_cases h3:op=3
  ·subst h3;have hb:=r4 (by omega);have hl:=h.wl_len;simp only [decide_true,cond_true,if_true];have ha':a.toNat<(wlR x0 x3 x2).1.length:=by omega
   have hb':b.toNat<(wlR x0 x3 x2).1.length:=by omega
   rw [w_iWholeLabels _ _ _ (by omega) (by omega),Option.bind_some];dsimp only;rw [bnd_ok r2.1 (by omega),getD_at ha',Option.bind_some,bnd_ok hb.1 (by omega),getD_at hb',Option.bind_some,h_iyesNo,Option.bind_some];rw [w_iHead_say _ _ _ _ _ _ _ _ _ _ _ _ _ _ (by omega)];simp only [decide_eq_true_eq];rfl
  ·simp only [decide_eq_false h3,cond_false,if_neg h3];by_cases h4:op=4
   ·subst h4;obtain ⟨g1,g2,g3,g4⟩:=h.at r2.1 r2.2;simp only [decide_true,cond_true,if_true,bnd_ok r2.1 g1,g2,Option.bind_some];by_cases hab:x1.getD a.toNat 0=b
    ·rw [decide_eq_true hab,if_pos hab,cond_true,w_iHead_say _ _ _ _ _ _ _ _ _ _ _ _ _ _ (by omega)];rfl
    ·rw [decide_eq_false hab,if_neg hab,cond_false,w_iHead_order h _ _ _ _ _ _ _ _ _ _ _ _ _ _ _ _ _ _ g3 g4];rfl
   ·simp only [decide_eq_false h4,cond_false,Option.bind_some,if_neg h4];rw [w_iHead_edge h i op a b (by omega) r2 (r4 h4)];rfl
end
noncomputable def tkOk (x0:Int) (x1:List Int) (x2:List Ed) (x3:List (List Int)) (x4:List Int) (x5 x6 x7 x8 x9 x10 x11:Int) (x12:List Ed) (x13:Int) (x14:List Sd) (i:Int):Bool:=
 hdB x0 x1 x2 x3 x4 x14 (tkB x0 x3.length x4 x14 x5 x6 x7 x8 x9 (x10,x11,x12,x13))&&(inB i 1 100000&&(!decide (0<=sA x14 i)&&(decide (x9=0) && !decide ((80:Int)<=(x14.length:Int)))))
noncomputable def tkR (x0:Int) (x1:List Int) (x2:List Ed) (x3:List (List Int)) (x4:List Int) (x5 x6 x7 x8 x9 x10 x11:Int) (x12:List Ed) (x13:Int) (x14:List Sd) (i op a b:Int):HdI:=
 if tkOk x0 x1 x2 x3 x4 x5 x6 x7 x8 x9 x10 x11 x12 x13 x14 i=true then tkM x0 x1 x2 x3 x4 x14 i op a b else (x0,x1,x2,x3,x4,x5,x6,x7,x8,x9,x10,x11,x12,x13,x14,0)
theorem tk_free {x0:Int} {x1:List Int} {x2:List Ed} {x3:List (List Int)} {x4:List Int} {x5 x6 x7 x8 x9 x10 x11:Int} {x12:List Ed} {x13:Int} {x14:List Sd} {i:Int} (h:tkOk x0 x1 x2 x3 x4 x5 x6 x7 x8 x9 x10 x11 x12 x13 x14 i=true) :
  HdF x0 x1 x2 x3 x4 x14/\x5=0/\x6=0/\x7=0/\x8=0/\x9=0/\x10=0/\x11=0/\x12=[]/\x13=0:=by
 unfold tkOk at h;simp only [Bool.and_eq_true,decide_eq_true_eq] at h;obtain ⟨h1,h2,h3,h4,h5⟩:=h;obtain ⟨hF,ht⟩:=hd_F h1;subst h4;unfold tkB at ht;rw [Bool.or_eq_true] at ht;rcases ht with ht|ht
 ·unfold tB blQ blO at ht;simp only [Bool.and_eq_true,decide_eq_true_eq] at ht;obtain ⟨⟨b1,b2,b3,b4⟩,_,c1,c2,c3,c4⟩:=ht;exact ⟨hF,b1,b2,b3,b4,rfl,c1,c2,List.length_eq_zero_iff.1 c3,c4⟩
 ·simp only [Bool.and_eq_true,inB_t] at ht;omega
section
variable (x0:Int) (x1:List Int) (x2:List Ed) (x3:List (List Int)) (x4:List Int) (x5 x6 x7 x8 x9 x10 x11:Int) (x12:List Ed) (x13:Int) (x14:List Sd) (i op a b:Int) (h1:x1.length<=1048576) (h2:x2.length<=1048576) (h3:x3.length<=1048576/\∀y,y∈x3->y.length<=1048576) (h4:x4.length<=1048576) (h12:x12.length<=1048576) (h14:x14.length<=1048576)
include h1 h2 h3 h4 h12 h14
theorem w_iTake:g_iTake ((x0,x1,x2,x3,x4,x5,x6,x7,x8,x9,x10,x11,x12,x13,x14),(i,op,a,b))=some (tkR x0 x1 x2 x3 x4 x5 x6 x7 x8 x9 x10 x11 x12 x13 x14 i op a b,()):=by
 show f_iTake BIG _=_;rw [e_iTake,w_icopyHead x0 x1 x2 x3 x4 x5 x6 x7 x8 x9 x10 x11 x12 x13 x14 h1 h2 h3 h4 h12 h14,Option.bind_some];dsimp only;rw [w_iHeadOk x0 x1 x2 x3 x4 x5 x6 x7 x8 x9 x10 x11 x12 x13 x14 h1 h2 h3 h12 h14,h_iin',w_isaidAt x14 i h14,h_iBusy];have hx:(Option.bind (some (hdB x0 x1 x2 x3 x4 x14 (tkB x0 x3.length x4 x14 x5 x6 x7 x8 x9 (x10,x11,x12,x13)),())) fun r1:Bool × Unit=>
   bif !r1.1 then some true else Option.bind (some (inB i 1 100000,())) fun r2:Bool × Unit=>bif !r2.1 then some true else Option.bind (some (sA x14 i,())) fun r3:Int × Unit=>bif decide ((0:Int)<=r3.1) then some true else Option.bind (some (!decide (x9=0),())) fun r4:Bool × Unit=>bif r4.1 then some true else some (decide ((80:Int)<=(x14.length:Int))))=some (!tkOk x0 x1 x2 x3 x4 x5 x6 x7 x8 x9 x10 x11 x12 x13 x14 i):=by
  unfold tkOk;simp only [Option.bind_some];cases hdB x0 x1 x2 x3 x4 x14 (tkB x0 x3.length x4 x14 x5 x6 x7 x8 x9 (x10,x11,x12,x13))<;>cases inB i 1 100000<;>cases decide ((0:Int)<=sA x14 i)<;>cases decide (x9=0)<;>cases decide ((80:Int)<=(x14.length:Int))<;>rfl
 refine (congrArg (fun o=>Option.bind o _) hx).trans ?_;unfold tkR;cases hok:tkOk x0 x1 x2 x3 x4 x5 x6 x7 x8 x9 x10 x11 x12 x13 x14 i with
 | false=>rfl
 | true=>
  obtain ⟨hF,rfl,rfl,rfl,rfl,rfl,rfl,rfl,rfl,rfl⟩:=tk_free hok;simp only [Bool.not_true,Option.bind_some,cond_false,if_true];rw [w_iHead_take hF];rfl
theorem w_sTake:g_sTake ((x0,x1,x2,x3,x4,x5,x6,x7,x8,x9,x10,x11,x12,x13,x14),(i,op,a,b))=some (tkR x0 x1 x2 x3 x4 x5 x6 x7 x8 x9 x10 x11 x12 x13 x14 i op a b,()):=by
 have hm:maxLen=9223372036854775807:=by decide
 show f_sTake BIG _=_;rw [e_sTake,w_sl12Copy x0 x1 x2 x3 x4 x5 x6 x7 x8 x9 x10 x11 x12 x13 x14 h1 h2 h3 h4 h12 h14,Option.bind_some];dsimp only;rw [w_sHeadOk x0 x1 x2 x3 x4 x5 x6 x7 x8 x9 x10 x11 x12 x13 x14 h1 h2 h3 h12 h14,h_sl01In',w_sl12Said x0 x1 x2 x3 x4 x5 x6 x7 x8 x9 x10 x11 x12 x13 x14 i h14,h_sBusy];have hx:(Option.bind (some (hdB x0 x1 x2 x3 x4 x14 (tkB x0 x3.length x4 x14 x5 x6 x7 x8 x9 (x10,x11,x12,x13)),())) fun r1:Bool × Unit=>
   bif !r1.1 then some true else Option.bind (some (inB i 1 100000,())) fun r2:Bool × Unit=>bif !r2.1 then some true else Option.bind (some (sA x14 i,())) fun r3:Int × Unit=>bif decide ((0:Int)<=r3.1) then some true else Option.bind (some (!decide (x9=0),())) fun r4:Bool × Unit=>bif r4.1 then some true else some (decide ((80:Int)<=(x14.length:Int))))=some (!tkOk x0 x1 x2 x3 x4 x5 x6 x7 x8 x9 x10 x11 x12 x13 x14 i):=by
  unfold tkOk;simp only [Option.bind_some];cases hdB x0 x1 x2 x3 x4 x14 (tkB x0 x3.length x4 x14 x5 x6 x7 x8 x9 (x10,x11,x12,x13))<;>cases inB i 1 100000<;>cases decide ((0:Int)<=sA x14 i)<;>cases decide (x9=0)<;>cases decide ((80:Int)<=(x14.length:Int))<;>rfl
 refine (congrArg (fun o=>Option.bind o _) hx).trans ?_;unfold tkR;cases hok:tkOk x0 x1 x2 x3 x4 x5 x6 x7 x8 x9 x10 x11 x12 x13 x14 i with
 | false=>rfl
 | true=>
  obtain ⟨hF,rfl,rfl,rfl,rfl,rfl,rfl,rfl,rfl,rfl⟩:=tk_free hok;have hcl:=eOk_len hF.cuts;have hsd:=hF.said;have hk:=hF.k;simp only [Bool.not_true,Option.bind_some,cond_false,if_true];rw [h_sl12Right _ _ _ _ _ _ _ _ _ _ _ _ _ _ _ _ _ _ _ hF.n,Option.bind_some];unfold tkM;cases hr:rtB x0 x3.length op a b with
  | false=>
   simp only [Bool.not_false,cond_true,if_true];rw [w_sl12Say _ _ _ _ _ _ _ _ _ _ _ _ _ _ (by omega)];rfl
  | true=>
   obtain ⟨r1,r2,r3,r4⟩:=rt_in hr;simp only [Bool.not_true,cond_false,Bool.true_eq_false,if_false];by_cases h3':op=3
   ·subst h3';have hb:=r4 (by omega);have hl:=hF.wl_len;simp only [decide_true,cond_true,if_true];have ha':a.toNat<(wlR x0 x3 x2).1.length:=by omega
    have hb':b.toNat<(wlR x0 x3 x2).1.length:=by omega
    rw [w_sWholeLabels _ _ _ (by omega) (by omega),if_pos (by omega),Option.bind_some];dsimp only;rw [bnd_ok r2.1 (by omega),getD_at ha',Option.bind_some,bnd_ok hb.1 (by omega),getD_at hb',Option.bind_some];by_cases hab:(wlR x0 x3 x2).1.getD a.toNat 0=(wlR x0 x3 x2).1.getD b.toNat 0
    ·rw [decide_eq_true hab,if_pos hab,cond_true,Option.bind_some,w_sl12Say _ _ _ _ _ _ _ _ _ _ _ _ _ _ (by omega)];rfl
    ·rw [decide_eq_false hab,if_neg hab,cond_false,Option.bind_some,w_sl12Say _ _ _ _ _ _ _ _ _ _ _ _ _ _ (by omega)];rfl
   ·simp only [decide_eq_false h3',cond_false,if_neg h3'];by_cases h4':op=4
    ·subst h4';obtain ⟨g1,g2,g3,g4⟩:=hF.at r2.1 r2.2;simp only [decide_true,cond_true,if_true,bnd_ok r2.1 g1,g2,Option.bind_some];by_cases hab:x1.getD a.toNat 0=b
     ·rw [decide_eq_true hab,if_pos hab,cond_true,w_sl12Say _ _ _ _ _ _ _ _ _ _ _ _ _ _ (by omega)];rfl
     ·rw [decide_eq_false hab,if_neg hab,cond_false,w_sl12Task hF _ _ _ _ _ _ _ _ _ _ _ _ _ _ _ _ _ _ g3 g4];rfl
    ·simp only [decide_eq_false h4',cond_false,if_neg h4'];rw [w_sl12Change hF i op a b (by omega) r2 (r4 h4')];rfl
end
theorem del_le (l:List Ed) (e:Ed):(del l e).length<=l.length:=List.length_filter_le _ _
theorem filt_two {α:Type} (p q:α->Bool) (h:∀x,p x=true->q x=true->False):∀l:List α,(l.filter p).length+(l.filter q).length<=l.length
 | []=>by simp
 | x::l=>by
  have ih:=filt_two p q h l;rw [List.filter_cons,List.filter_cons,List.length_cons];cases hp:p x<;>cases hq:q x<;>simp only [Bool.false_eq_true,if_false,if_true,List.length_cons]<;>first
   | omega
   | exact absurd hq (fun hq=>h x hp hq)
theorem ins_le (l:List Ed) (e:Ed):(ins l e).length<=l.length+1:=by
 unfold ins;have:=filt_two (fun y=>lsB y e) (fun y=>lsB e y) (fun x h1 h2=>by
  simp only [lsB,Bool.or_eq_true,Bool.and_eq_true,decide_eq_true_eq] at h1 h2
  omega) l
 simp only [List.length_append,List.length_cons,List.length_nil];omega
theorem tkM_len (x0:Int) (x1:List Int) (x2:List Ed) (x3:List (List Int)) (x4:List Int) (x14:List Sd) (i op a b:Int) :
  ∃(c:List Ed) (t1 t2 t3 t4 t5 t6 t7:Int) (t8:List Ed) (t9:Int) (s:List Sd) (m:Int),tkM x0 x1 x2 x3 x4 x14 i op a b=(x0,x1,c,x3,x4,t1,t2,t3,t4,t5,t6,t7,t8,t9,s,m)/\c.length<=x2.length+1/\t8.length<=1/\s.length<=x14.length+1:=by
 have say:∀(c:List Ed) (v:Int),c.length<=x2.length+1->∃(c':List Ed) (t1 t2 t3 t4 t5 t6 t7:Int) (t8:List Ed) (t9:Int) (s:List Sd) (m:Int),sayT x0 x1 c x3 x4 x14 i op a b v=(x0,x1,c',x3,x4,t1,t2,t3,t4,t5,t6,t7,t8,t9,s,m)/\c'.length<=x2.length+1/\t8.length<=1/\s.length<=x14.length+1:=fun c v hc=>⟨_,_,_,_,_,_,_,_,_,_,_,_,rfl,hc,by simp,by simp⟩
 have ord:∀(sh o:Int) (es:List Ed) (v:Int),es.length<=1->∃(c':List Ed) (t1 t2 t3 t4 t5 t6 t7:Int) (t8:List Ed) (t9:Int) (s:List Sd) (m:Int),ordT x0 x1 x2 x3 x4 x14 i op a b sh o es v=(x0,x1,c',x3,x4,t1,t2,t3,t4,t5,t6,t7,t8,t9,s,m)/\c'.length<=x2.length+1/\t8.length<=1/\s.length<=x14.length+1:=fun sh o es v hc=>⟨_,_,_,_,_,_,_,_,_,_,_,_,rfl,by omega,hc,by omega⟩
 unfold tkM tkE;split
 ·exact say _ _ (by omega)
 ·split
  ·exact say _ _ (by omega)
  ·split
   ·split
    ·exact say _ _ (by omega)
    ·exact ord _ _ _ _ (by simp)
   ·split
    ·exact ord _ _ _ _ (by simp)
    ·split
     ·exact say _ _ (by omega)
     ·refine say _ _ ?_;split
      ·have:=del_le x2 (edO a b);omega
      ·exact ins_le _ _
theorem ownL_len (n k:Nat):(ownL n k).length=n:=by simp [ownL]
theorem loop_bind {X B C:Type} {F:(X->Option B)->X->Option B} (I:X->Prop) (μ:X->Nat) (Q:X->B->Prop) (P:Option C->Prop) {x:X} {k:B->Option C} (hx:μ x<BIG) (hi:I x)
  (h:∀self x,I x->(∀y,I y->μ y<μ x->∃b,self y=some b/\Q y b)->∃b,F self x=some b/\Q x b) (hk:∀b,Q x b->P (k b)):P (Option.bind (loopT BIG F x) k):=by
 obtain ⟨b,h1,h2⟩:=loop_rel (F:=F) I μ Q h hx hi;rw [h1];exact hk b h2
abbrev ShT:=Int × Int × List (Int × Int × Int × Bool) × Int × Bool × List (Int × Int) × List Int
abbrev Pk:=Int × Int × ByteArray
abbrev Cl7:=Int × Int × Int × Int × Int × Int × Int
def z_DiskS (a:List (List Fl)):Nat:=a.length+(a.map zFS).sum
abbrev B_DiskS (a:List (List Fl)):Prop:=a.length<=maxLen/\∀y,y∈a->y.length<=maxLen/\∀z,z∈y->z.1.size<=maxLen/\z.2.1.size<=maxLen
def zPk (y:Pk):Nat:=y.2.2.size
def z_PacketS (a:List Pk):Nat:=a.length+(a.map zPk).sum
abbrev B_PacketS (a:List Pk):Prop:=a.length<=maxLen/\∀y,y∈a->y.2.2.size<=maxLen
theorem sum_mem {α:Type} (z:α->Nat) {a:List α} {y:α} (h:y∈a):z y<=(a.map z).sum:=by
 induction a with
 | nil=>cases h
 | cons x a ih=>
  rw [List.map_cons,List.sum_cons];rcases List.mem_cons.1 h with rfl|h
  ·omega
  ·have:=ih h;omega
theorem sz_DiskS (a:List (List Fl)) (l:Int) (h0:0<=l) (h1:l<=1048576) (ha:B_DiskS a):g_lszDiskS (a,l)=some (if ((z_DiskS a:Nat):Int)<=l then l-(z_DiskS a:Nat) else -1,()):=by
 have hm:maxLen=9223372036854775807:=by decide
 have h2:=ha.1;show f_lszDiskS BIG _=_;rw [e_lszDiskS,wr (by omega) (by omega)];unfold z_DiskS;by_cases h:((a.length:Nat):Int)<=l
 ·rw [decide_eq_false (by omega),cond_false,szLoop a zFS (-1) (l-a.length) (by omega) (by omega) (by omega)]
  ·by_cases hq:((a.map zFS).sum:Int)<=l-a.length
   ·rw [if_pos hq,if_pos (by omega)];simp only [Option.bind_some];rw [show l-(a.length:Int)-((a.map zFS).sum:Nat)=l-((a.length+(a.map zFS).sum:Nat):Int) from by omega]
   ·rw [if_neg hq,if_neg (by omega)];rfl
  ·intro self i l y hy l0 l1;have hi:=(List.getElem?_eq_some_iff.1 hy).1;have hb:=ha.2 y (List.mem_of_getElem? hy);simp only [show ((i:Int)<(a.length:Int)) from by omega,decide_true,cond_true];have e:=sz_Disk y l l0 l1 hb;rw [bnd_nat hi,hy,Option.bind_some,e,Option.bind_some];by_cases c:(zFS y:Int)<=l
   ·rw [if_pos c,if_pos c,decide_eq_false (by omega),cond_false,wr1 (by omega)]
   ·rw [if_neg c,if_neg c];rfl
  ·intro self l;simp
 ·rw [decide_eq_true (by omega),cond_true,if_neg (by omega)]
theorem sz_PacketS (a:List Pk) (l:Int) (h0:0<=l) (h1:l<=1048576) (ha:B_PacketS a):g_lszPacketS (a,l)=some (if ((z_PacketS a:Nat):Int)<=l then l-(z_PacketS a:Nat) else -1,()):=by
 have hm:maxLen=9223372036854775807:=by decide
 have h2:=ha.1;show f_lszPacketS BIG _=_;rw [e_lszPacketS,wr (by omega) (by omega)];unfold z_PacketS;by_cases h:((a.length:Nat):Int)<=l
 ·rw [decide_eq_false (by omega),cond_false,szLoop a zPk (-1) (l-a.length) (by omega) (by omega) (by omega)]
  ·by_cases hq:((a.map zPk).sum:Int)<=l-a.length
   ·rw [if_pos hq,if_pos (by omega)];simp only [Option.bind_some];rw [show l-(a.length:Int)-((a.map zPk).sum:Nat)=l-((a.length+(a.map zPk).sum:Nat):Int) from by omega]
   ·rw [if_neg hq,if_neg (by omega)];rfl
  ·intro self i l y hy l0 l1;have hi:=(List.getElem?_eq_some_iff.1 hy).1;have hb:=ha.2 y (List.mem_of_getElem? hy);simp only [show ((i:Int)<(a.length:Int)) from by omega,decide_true,cond_true];have e:g_lszPacket (y,l)=some (if (zPk y:Int)<=l then l-zPk y else -1,()):=by
    show f_lszPacket BIG _=_;rw [e_lszPacket,wr (n:=l-(y.2.2.size:Int)) (by omega) (by omega)];unfold zPk;by_cases c1:l-(y.2.2.size:Int)<0
    ·rw [decide_eq_true c1,if_neg (by omega)];rfl
    ·rw [decide_eq_false c1,cond_false,if_pos (by omega)]
   rw [bnd_nat hi,hy,Option.bind_some,e,Option.bind_some];by_cases c:(zPk y:Int)<=l
   ·rw [if_pos c,if_pos c,decide_eq_false (by omega),cond_false,wr1 (by omega)]
   ·rw [if_neg c,if_neg c];rfl
  ·intro self l;simp
 ·rw [decide_eq_true (by omega),cond_true,if_neg (by omega)]
theorem sz_CallS (a:List Cl7) (l:Int) (h0:0<=l) (h1:l<=1048576) (ha:a.length<=maxLen):g_lszCallS (a,l)=some (if ((a.length:Nat):Int)<=l then l-(a.length:Nat) else -1,()):=by
 have hm:maxLen=9223372036854775807:=by decide
 show f_lszCallS BIG _=_;rw [e_lszCallS,wr (by omega) (by omega)];by_cases h:((a.length:Nat):Int)<=l
 ·rw [if_pos h,decide_eq_false (by omega),cond_false]
 ·rw [if_neg h,decide_eq_true (by omega),cond_true]
theorem to_DiskS (a:List (List Fl)) (h:z_DiskS a<=1048576):g_ltoDiskS a=some (a,()):=by
 have hm:maxLen=9223372036854775807:=by decide
 have h1:a.length<=1048576:=by unfold z_DiskS at h;omega
 show f_ltoDiskS BIG _=_;rw [e_ltoDiskS,decide_eq_true (by omega),cond_true,decide_eq_true (by simp;omega),cond_true];simp only [Int.toNat_natCast];rw [cpLoop a (by omega)]
 ·rfl
 ·intro self out i y hl hy;have hi:=(List.getElem?_eq_some_iff.1 hy).1;simp only [show ((i:Int)<(a.length:Int)) from by omega,decide_true,cond_true];have hz:=sum_mem zFS (List.mem_of_getElem? hy);have hz2:y.length<=zFS y:=Nat.le_add_right _ _;unfold z_DiskS at h;have e:=to_Disk y (by omega);rw [bnd_nat hi,hy,Option.bind_some,e,Option.bind_some];rw [bnd_nat (by omega),List.getElem?_eq_getElem (by omega),Option.bind_some,wr1 (by omega)]
 ·intro self out hl;simp
theorem eq_DiskS (a:List (List Fl)) (h:z_DiskS a<=1048576):g_leqDiskS (a,a)=some (true,()):=by
 have hm:maxLen=9223372036854775807:=by decide
 have h1:a.length<=1048576:=by unfold z_DiskS at h;omega
 show f_leqDiskS BIG _=_;rw [e_leqDiskS,decide_eq_true rfl,Bool.not_true,cond_false,allLoop a (by omega) (fun _=>true) false]
 ·rw [if_pos (fun _ _=>rfl)];rfl
 ·intro self i y hy;have hi:=(List.getElem?_eq_some_iff.1 hy).1;have hz:=sum_mem zFS (List.mem_of_getElem? hy);have hz2:y.length<=zFS y:=Nat.le_add_right _ _;unfold z_DiskS at h;have e:=eq_Disk y (by omega);simp only [show ((i:Int)<(a.length:Int)) from by omega,decide_true,cond_true];rw [bnd_nat hi,hy,Option.bind_some,bnd_nat hi,hy,Option.bind_some,e,Option.bind_some,wr1 (by omega)];rfl
 ·intro self;simp
theorem to_PacketS (a:List Pk) (h:a.length<=1048576):g_ltoPacketS a=some (a,()):=by
 have hm:maxLen=9223372036854775807:=by decide
 have h1:a.length<=1048576:=by omega
 show f_ltoPacketS BIG _=_;rw [e_ltoPacketS,decide_eq_true (by omega),cond_true,decide_eq_true (by simp;omega),cond_true];simp only [Int.toNat_natCast];rw [cpLoop a (by omega)]
 ·rfl
 ·intro self out i y hl hy;have hi:=(List.getElem?_eq_some_iff.1 hy).1;simp only [show ((i:Int)<(a.length:Int)) from by omega,decide_true,cond_true];have e:g_ltoPacket y=some (y,()):=e_ltoPacket BIG y;rw [bnd_nat hi,hy,Option.bind_some,e,Option.bind_some];rw [bnd_nat (by omega),List.getElem?_eq_getElem (by omega),Option.bind_some,wr1 (by omega)]
 ·intro self out hl;simp
theorem eq_PacketS (a:List Pk) (h:a.length<=1048576):g_leqPacketS (a,a)=some (true,()):=by
 have hm:maxLen=9223372036854775807:=by decide
 have h1:a.length<=1048576:=by omega
 show f_leqPacketS BIG _=_;rw [e_leqPacketS,decide_eq_true rfl,Bool.not_true,cond_false,allLoop a (by omega) (fun _=>true) false]
 ·rw [if_pos (fun _ _=>rfl)];rfl
 ·intro self i y hy;have hi:=(List.getElem?_eq_some_iff.1 hy).1;have e:g_leqPacket (y,y)=some (true,()):=by
   show f_leqPacket BIG _=_;rw [e_leqPacket];simp
  simp only [show ((i:Int)<(a.length:Int)) from by omega,decide_true,cond_true];rw [bnd_nat hi,hy,Option.bind_some,bnd_nat hi,hy,Option.bind_some,e,Option.bind_some,wr1 (by omega)];rfl
 ·intro self;simp
theorem to_CallS (a:List Cl7) (h:a.length<=1048576):g_ltoCallS a=some (a,()):=by
 have hm:maxLen=9223372036854775807:=by decide
 have h1:a.length<=1048576:=by omega
 show f_ltoCallS BIG _=_;rw [e_ltoCallS,decide_eq_true (by omega),cond_true,decide_eq_true (by simp;omega),cond_true];simp only [Int.toNat_natCast];rw [cpLoop a (by omega)]
 ·rfl
 ·intro self out i y hl hy;have hi:=(List.getElem?_eq_some_iff.1 hy).1;simp only [show ((i:Int)<(a.length:Int)) from by omega,decide_true,cond_true];have e:g_ltoCall y=some (y,()):=by
   show f_ltoCall BIG _=_;rw [e_ltoCall,to_Ask];rfl
  rw [bnd_nat hi,hy,Option.bind_some,e,Option.bind_some];rw [bnd_nat (by omega),List.getElem?_eq_getElem (by omega),Option.bind_some,wr1 (by omega)]
 ·intro self out hl;simp
theorem eq_CallS (a:List Cl7) (h:a.length<=1048576):g_leqCallS (a,a)=some (true,()):=by
 have hm:maxLen=9223372036854775807:=by decide
 have h1:a.length<=1048576:=by omega
 show f_leqCallS BIG _=_;rw [e_leqCallS,decide_eq_true rfl,Bool.not_true,cond_false,allLoop a (by omega) (fun _=>true) false]
 ·rw [if_pos (fun _ _=>rfl)];rfl
 ·intro self i y hy;have hi:=(List.getElem?_eq_some_iff.1 hy).1;have e:g_leqCall (y,y)=some (true,()):=by
   show f_leqCall BIG _=_;rw [e_leqCall,eq_Ask];simp
  simp only [show ((i:Int)<(a.length:Int)) from by omega,decide_true,cond_true];rw [bnd_nat hi,hy,Option.bind_some,bnd_nat hi,hy,Option.bind_some,e,Option.bind_some,wr1 (by omega)];rfl
 ·intro self;simp
theorem sz_World (n x0:Int) (x1:List Int) (x2:List Ed) (x3:List (List Int)) (x4:List Int) (x5 x6 x7 x8 x9 x10 x11:Int) (x12:List Ed) (x13:Int) (x14:List Sd) (ss:List ShT) (ds:List (List Fl)) (us:List Bool) (ps:List Pk) (cs:List Cl7) (rs:List Rc) (l:Int) (h0:0<=l) (h1:l<=1048576) (q1:x1.length<=maxLen) (q2:x2.length<=maxLen) (q3:B_IntSS x3) (q4:x4.length<=maxLen) (q12:x12.length<=maxLen) (q14:x14.length<=maxLen) (qs:B_ShardS ss) (qd:B_DiskS ds) (qu:us.length<=maxLen) (qp:B_PacketS ps) (qc:cs.length<=maxLen) (qr:B_RecS rs):g_lszWorld ((n,x0,x1,x2,x3,x4,x5,x6,x7,x8,x9,x10,x11,x12,x13,x14,ss,ds,us,ps,cs,rs),l)=some (if ((((x1.length+x2.length+z_IntSS x3+x4.length+x12.length+x14.length)+z_ShardS ss+z_DiskS ds+us.length+z_PacketS ps+cs.length+z_RecS rs):Nat):Int)<=l then l-(((x1.length+x2.length+z_IntSS x3+x4.length+x12.length+x14.length)+z_ShardS ss+z_DiskS ds+us.length+z_PacketS ps+cs.length+z_RecS rs):Nat) else -1,()):=by
 show f_lszWorld BIG _=_;rw [e_lszWorld];dsimp only;have s0:=sz_Head x0 x1 x2 x3 x4 x5 x6 x7 x8 x9 x10 x11 x12 x13 x14 (l) (by omega) (by omega) q1 q2 q3 q4 q12 q14;by_cases c0:(((x1.length+x2.length+z_IntSS x3+x4.length+x12.length+x14.length):Nat):Int)<=l;case neg=>
  rw [if_neg c0] at s0;rw [s0,Option.bind_some,if_neg (by omega)];all_goals rfl
 rw [if_pos c0] at s0;rw [s0,Option.bind_some];dsimp only;rw [decide_eq_false (by omega),cond_false];have s1:=sz_ShardS ss (l-((x1.length+x2.length+z_IntSS x3+x4.length+x12.length+x14.length):Nat)) (by omega) (by omega) qs;by_cases c1:((z_ShardS ss:Nat):Int)<=l-((x1.length+x2.length+z_IntSS x3+x4.length+x12.length+x14.length):Nat)
 case neg=>
  rw [if_neg c1] at s1;rw [s1,Option.bind_some,if_neg (by omega)];all_goals rfl
 rw [if_pos c1] at s1;rw [s1,Option.bind_some];dsimp only;rw [decide_eq_false (by omega),cond_false];have s2:=sz_DiskS ds (l-((x1.length+x2.length+z_IntSS x3+x4.length+x12.length+x14.length):Nat)-(z_ShardS ss:Nat)) (by omega) (by omega) qd;by_cases c2:((z_DiskS ds:Nat):Int)<=l-((x1.length+x2.length+z_IntSS x3+x4.length+x12.length+x14.length):Nat)-(z_ShardS ss:Nat)
 case neg=>
  rw [if_neg c2] at s2;rw [s2,Option.bind_some,if_neg (by omega)];all_goals rfl
 rw [if_pos c2] at s2;rw [s2,Option.bind_some];dsimp only;rw [decide_eq_false (by omega),cond_false];have s3:=sz_BoolS us (l-((x1.length+x2.length+z_IntSS x3+x4.length+x12.length+x14.length):Nat)-(z_ShardS ss:Nat)-(z_DiskS ds:Nat)) (by omega) (by omega) qu;by_cases c3:((us.length:Nat):Int)<=l-((x1.length+x2.length+z_IntSS x3+x4.length+x12.length+x14.length):Nat)-(z_ShardS ss:Nat)-(z_DiskS ds:Nat)
 case neg=>
  rw [if_neg c3] at s3;rw [s3,Option.bind_some,if_neg (by omega)];all_goals rfl
 rw [if_pos c3] at s3;rw [s3,Option.bind_some];dsimp only;rw [decide_eq_false (by omega),cond_false];have s4:=sz_PacketS ps (l-((x1.length+x2.length+z_IntSS x3+x4.length+x12.length+x14.length):Nat)-(z_ShardS ss:Nat)-(z_DiskS ds:Nat)-(us.length:Nat)) (by omega) (by omega) qp;by_cases c4:((z_PacketS ps:Nat):Int)<=l-((x1.length+x2.length+z_IntSS x3+x4.length+x12.length+x14.length):Nat)-(z_ShardS ss:Nat)-(z_DiskS ds:Nat)-(us.length:Nat)
 case neg=>
  rw [if_neg c4] at s4;rw [s4,Option.bind_some,if_neg (by omega)];all_goals rfl
 rw [if_pos c4] at s4;rw [s4,Option.bind_some];dsimp only;rw [decide_eq_false (by omega),cond_false];have s5:=sz_CallS cs (l-((x1.length+x2.length+z_IntSS x3+x4.length+x12.length+x14.length):Nat)-(z_ShardS ss:Nat)-(z_DiskS ds:Nat)-(us.length:Nat)-(z_PacketS ps:Nat)) (by omega) (by omega) qc;by_cases c5:((cs.length:Nat):Int)<=l-((x1.length+x2.length+z_IntSS x3+x4.length+x12.length+x14.length):Nat)-(z_ShardS ss:Nat)-(z_DiskS ds:Nat)-(us.length:Nat)-(z_PacketS ps:Nat)
 case neg=>
  rw [if_neg c5] at s5;rw [s5,Option.bind_some,if_neg (by omega)];all_goals rfl
 rw [if_pos c5] at s5;rw [s5,Option.bind_some];dsimp only;rw [decide_eq_false (by omega),cond_false];have s6:=sz_RecS rs (l-((x1.length+x2.length+z_IntSS x3+x4.length+x12.length+x14.length):Nat)-(z_ShardS ss:Nat)-(z_DiskS ds:Nat)-(us.length:Nat)-(z_PacketS ps:Nat)-(cs.length:Nat)) (by omega) (by omega) qr;by_cases c6:((z_RecS rs:Nat):Int)<=l-((x1.length+x2.length+z_IntSS x3+x4.length+x12.length+x14.length):Nat)-(z_ShardS ss:Nat)-(z_DiskS ds:Nat)-(us.length:Nat)-(z_PacketS ps:Nat)-(cs.length:Nat)
 case neg=>
  rw [if_neg c6] at s6;rw [s6,Option.bind_some,if_neg (by omega)];all_goals rfl
 rw [if_pos c6] at s6;rw [s6,Option.bind_some];dsimp only;rw [decide_eq_false (by omega),cond_false];rw [if_pos (by omega)];all_goals first|rfl | (congr 2;done) | (congr 2;omega)
theorem ps_le (ps:List Pk):ps.length<=z_PacketS ps:=Nat.le_add_right _ _
theorem to_World (n x0:Int) (x1:List Int) (x2:List Ed) (x3:List (List Int)) (x4:List Int) (x5 x6 x7 x8 x9 x10 x11:Int) (x12:List Ed) (x13:Int) (x14:List Sd) (ss:List ShT) (ds:List (List Fl)) (us:List Bool) (ps:List Pk) (cs:List Cl7) (rs:List Rc) (h:((x1.length+x2.length+z_IntSS x3+x4.length+x12.length+x14.length)+z_ShardS ss+z_DiskS ds+us.length+z_PacketS ps+cs.length+z_RecS rs)<=1048576):g_ltoWorld (n,x0,x1,x2,x3,x4,x5,x6,x7,x8,x9,x10,x11,x12,x13,x14,ss,ds,us,ps,cs,rs)=some ((n,x0,x1,x2,x3,x4,x5,x6,x7,x8,x9,x10,x11,x12,x13,x14,ss,ds,us,ps,cs,rs),()):=by
 have hp:=ps_le ps;show f_ltoWorld BIG _=_;rw [e_ltoWorld];dsimp only;rw [to_Head x0 x1 x2 x3 x4 x5 x6 x7 x8 x9 x10 x11 x12 x13 x14 (by omega),Option.bind_some,to_ShardS ss (by omega),Option.bind_some,to_DiskS ds (by omega),Option.bind_some,to_BoolS us (by omega),Option.bind_some,to_PacketS ps (by omega),Option.bind_some,to_CallS cs (by omega),Option.bind_some,to_RecS rs (by omega),Option.bind_some]
theorem eq_World (n x0:Int) (x1:List Int) (x2:List Ed) (x3:List (List Int)) (x4:List Int) (x5 x6 x7 x8 x9 x10 x11:Int) (x12:List Ed) (x13:Int) (x14:List Sd) (ss:List ShT) (ds:List (List Fl)) (us:List Bool) (ps:List Pk) (cs:List Cl7) (rs:List Rc) (h:((x1.length+x2.length+z_IntSS x3+x4.length+x12.length+x14.length)+z_ShardS ss+z_DiskS ds+us.length+z_PacketS ps+cs.length+z_RecS rs)<=1048576):g_leqWorld ((n,x0,x1,x2,x3,x4,x5,x6,x7,x8,x9,x10,x11,x12,x13,x14,ss,ds,us,ps,cs,rs),(n,x0,x1,x2,x3,x4,x5,x6,x7,x8,x9,x10,x11,x12,x13,x14,ss,ds,us,ps,cs,rs))=some (true,()):=by
 have hp:=ps_le ps;show f_leqWorld BIG _=_;rw [e_leqWorld];dsimp only;rw [decide_eq_true rfl,Bool.not_true,cond_false,eq_Head x0 x1 x2 x3 x4 x5 x6 x7 x8 x9 x10 x11 x12 x13 x14 (by omega),Option.bind_some,Bool.not_true,cond_false,eq_ShardS ss (by omega),Option.bind_some,Bool.not_true,cond_false,eq_DiskS ds (by omega),Option.bind_some,Bool.not_true,cond_false,eq_BoolS us us (by omega),Option.bind_some,decide_eq_true rfl,Bool.not_true,cond_false,eq_PacketS ps (by omega),Option.bind_some,Bool.not_true,cond_false,eq_CallS cs (by omega),Option.bind_some,Bool.not_true,cond_false,eq_RecS rs (by omega),Option.bind_some,Bool.not_true,cond_false]
theorem zip_any {α:Type} {l:List α} {i:Nat} {p:α × Nat} (h:l.zipIdx[i]?=some p):l[i]?=some p.1/\p.2=i:=by
 rw [List.getElem?_zipIdx] at h;cases hl:l[i]? with
 | none=>rw [hl] at h;simp at h
 | some x=>rw [hl] at h;simp at h;subst h;simp
def ow (s:ShT):List Ed:=s.2.2.1.map fun x=>(x.1,x.2.1)
theorem ow_len (s:ShT):(ow s).length=s.2.2.1.length:=by simp [ow]
theorem w_iOwned (y:ShT) (h:y.2.2.1.length<=1048576):g_iOwned y=some (ow y,()):=by
 obtain ⟨a,b,c,d,e,f,g⟩:=y;exact h_iOwned a b c d e f g h
theorem w_sOwned (y:ShT) (h:y.2.2.1.length<=1048576):g_sOwned y=some (ow y,()):=by
 obtain ⟨a,b,c,d,e,f,g⟩:=y;exact h_sOwned a b c d e f g h
def onP (own:List Int) (p:ShT × Nat):Bool:=(ow p.1).all (insP own ((p.2:Int)+1))
def onB (aop:Int) (own:List Int) (cuts:List Ed) (ss:List ShT):Bool:=(decide (aop=4) || ss.zipIdx.all (onP own))&&(resW (fM stE [] (cuts++(ss.map ow).flatten))).2
def onI (own:List Int) (ss:List ShT) (i:Nat):Bool:=match ss[i]? with
 | some y=>onP own (y,i)
 | none=>true
theorem onI_all (own:List Int) (ss:List ShT):(∀i,i<ss.length->onI own ss i=true)↔ss.zipIdx.all (onP own)=true:=by
 rw [List.all_eq_true];constructor
 ·intro h p hp;obtain ⟨i,hi,he⟩:=List.getElem_of_mem hp;have hz:ss.zipIdx[i]?=some p:=by rw [List.getElem?_eq_getElem hi,he]
  obtain ⟨h1,h2⟩:=zip_any hz;rw [List.length_zipIdx] at hi;have:=h i hi;unfold onI at this;rw [h1] at this;obtain ⟨y,j⟩:=p;simp only at h2 this;subst h2;exact this
 ·intro h i hi;have hz:i<ss.zipIdx.length:=by rw [List.length_zipIdx];exact hi
  have hm:=List.getElem_mem hz;have hq:=List.getElem?_eq_getElem hz;generalize ss.zipIdx[i]=p at hm hq;obtain ⟨h1,h2⟩:=zip_any hq;have:=h _ hm;unfold onI;rw [h1];obtain ⟨y,j⟩:=p;simp only at h2 ⊢;subst h2;exact this
theorem filter_len {α:Type} (p:α->Bool) (l:List α):decide (((l.filter p).length:Int)=(l.length:Int))=l.all p:=by
 rw [Bool.eq_iff_iff,decide_eq_true_eq,List.all_eq_true];constructor
 ·intro h x hx;have h1:(l.filter p).length=l.length:=by omega
  exact List.length_filter_eq_length_iff.1 h1 x hx
 ·intro h;rw [List.length_filter_eq_length_iff.2 h]
theorem w_iwebs (n x0:Int) (x1:List Int) (x2:List Ed) (x3:List (List Int)) (x4:List Int) (x5 x6 x7 x8 x9 x10 x11:Int) (x12:List Ed) (x13:Int) (x14:List Sd) (ss:List ShT) (ds:List (List Fl)) (us:List Bool) (ps:List Pk) (cs:List Cl7) (rs:List Rc) (hs:ss.length<=1048576) (hy:∀y,y∈ss->y.2.2.1.length<=1048576):g_iwebs (n,x0,x1,x2,x3,x4,x5,x6,x7,x8,x9,x10,x11,x12,x13,x14,ss,ds,us,ps,cs,rs)=some (ss.map ow,()):=by
 have hm:maxLen=9223372036854775807:=by decide
 show f_iwebs BIG _=_;rw [e_iwebs];dsimp only;rw [foldLoop ss (by omega) (fun i (s:List (List Ed))=>s.length=i) (fun s y=>s++[ow y]) id rfl (fun i s y _ h=>by simp only [List.length_append,List.length_cons,List.length_nil];omega) (fun self s i y hyy hs' => ?_) (fun self s _=>by simp)]
 ·have hf:∀(L:List ShT) (s:List (List Ed)),L.foldl (fun s y=>s++[ow y]) s=s++L.map ow:=by
   intro L;induction L with
   | nil=>intro s;simp
   | cons y L ih=>intro s;rw [List.foldl_cons,ih];simp
  rw [hf];rfl
 ·have hi:=(List.getElem?_eq_some_iff.1 hyy).1;simp only [show ((i:Int)<(ss.length:Int)) from by omega,decide_true,cond_true];rw [bnd_nat hi,hyy,Option.bind_some,w_iOwned y (hy y (List.mem_of_getElem? hyy)),Option.bind_some,decide_eq_true (by simp only [List.length_cons,List.length_nil];omega),cond_true,wr1 (by omega)]
section
variable (n x0:Int) (x1:List Int) (x2:List Ed) (x3:List (List Int)) (x4:List Int) (x5 x6 x7 x8 x9 x10 x11:Int) (x12:List Ed) (x13:Int) (x14:List Sd) (ss:List ShT) (ds:List (List Fl)) (us:List Bool) (ps:List Pk) (cs:List Cl7) (rs:List Rc) (h1:x1.length<=1048576) (hs:ss.length<=1048576) (hy:∀y,y∈ss->y.2.2.1.length<=1048576) (ht:x2.length+(ss.map ow).flatten.length<=2000000)
include h1 hs hy ht
theorem w_iOnce:g_iOnce (n,x0,x1,x2,x3,x4,x5,x6,x7,x8,x9,x10,x11,x12,x13,x14,ss,ds,us,ps,cs,rs)=some (onB x6 x1 x2 ss,()):=by
 have hm:maxLen=9223372036854775807:=by decide
 show f_iOnce BIG _=_;rw [e_iOnce];dsimp only;rw [w_iwebs n x0 x1 x2 x3 x4 x5 x6 x7 x8 x9 x10 x11 x12 x13 x14 ss ds us ps cs rs hs hy,Option.bind_some,h_iWholeEdges _ _ (by simpa using hs) ht,Option.bind_some];unfold onB;cases (resW (fM stE [] (x2++(ss.map ow).flatten))).2 with
 | false=>simp
 | true=>
  simp only [Bool.not_true,cond_false,Bool.and_true];by_cases h4:x6=4
  ·rw [decide_eq_true h4];rfl
  ·rw [decide_eq_false h4,cond_false,Bool.false_or,allLoop ss (by omega) (onI x1 ss) false (fun self i y hyy => ?_) (fun self=>by simp)]
   ·by_cases ha:ss.zipIdx.all (onP x1)=true
    ·rw [if_pos ((onI_all x1 ss).2 ha),ha];rfl
    ·rw [if_neg (fun h=>ha ((onI_all x1 ss).1 h))];rw [Bool.not_eq_true] at ha;rw [ha];rfl
   ·have hi:=(List.getElem?_eq_some_iff.1 hyy).1;have hyl:=hy y (List.mem_of_getElem? hyy);have hol:=ow_len y;have he:onI x1 ss i=(ow y).all (insP x1 ((i:Int)+1)):=by unfold onI;rw [hyy];rfl
    simp only [show ((i:Int)<(ss.length:Int)) from by omega,decide_true,cond_true];rw [bnd_nat hi,hyy,Option.bind_some,w_iOwned y hyl,Option.bind_some,wr1 (by omega),he];rw [allLoop (ow y) (by omega) (fun j=>match (ow y)[j]? with|some e=>insP x1 ((i:Int)+1) e|none=>true) false (fun self j e hee => ?_) (fun self=>by simp)]
    ·by_cases ha:(ow y).all (insP x1 ((i:Int)+1))=true
     ·rw [if_pos,if_pos ha]
      ·rfl
      ·intro j hj;rw [List.getElem?_eq_getElem hj];exact List.all_eq_true.1 ha _ (List.getElem_mem hj)
     ·rw [if_neg,if_neg ha]
      ·rfl
      ·intro h;apply ha;rw [List.all_eq_true];intro e he;obtain ⟨j,hj,rfl⟩:=List.getElem_of_mem he;have:=h j hj;rwa [List.getElem?_eq_getElem hj] at this
    ·have hj:=(List.getElem?_eq_some_iff.1 hee).1;simp only [show ((j:Int)<((ow y).length:Int)) from by omega,decide_true,cond_true];rw [bnd_nat hj,hee,Option.bind_some,h_iowns x1 h1,h_iowns x1 h1,wr1 (by omega)];have hq:insP x1 ((i:Int)+1) e=((decide (0<=e.1)&&decide (e.1<(x1.length:Int))&&decide (x1[e.1.toNat]?=some ((i+1:Nat):Int)))&&(decide (0<=e.2)&&decide (e.2<(x1.length:Int))&&decide (x1[e.2.toNat]?=some ((i+1:Nat):Int)))):=rfl;simp only [hee,hq];generalize (decide (0<=e.1)&&decide (e.1<(x1.length:Int))&&decide (x1[e.1.toNat]?=some ((i+1:Nat):Int)))=a;generalize (decide (0<=e.2)&&decide (e.2<(x1.length:Int))&&decide (x1[e.2.toNat]?=some ((i+1:Nat):Int)))=b;cases a<;>cases b<;>rfl
theorem w_sOnce:g_sOnce (n,x0,x1,x2,x3,x4,x5,x6,x7,x8,x9,x10,x11,x12,x13,x14,ss,ds,us,ps,cs,rs)=some (onB x6 x1 x2 ss,()):=by
 have hm:maxLen=9223372036854775807:=by decide
 show f_sOnce BIG _=_;rw [e_sOnce];dsimp only;have hz:ss.zipIdx.length=ss.length:=List.length_zipIdx;rw [exitLoop ss.zipIdx (by omega) (fun i (s:List (List Ed))=>s.length=i) (fun s p=>if (decide (x6=4) || onP x1 p)=true then some (s++[ow p.1]) else none) false rfl (fun i s y s' hyy hs' he=>by
  split at he
  ·cases he;simp only [List.length_append,List.length_cons,List.length_nil];omega
  ·cases he) (fun self s i p hp hs' => ?_) (fun self s hs'=>by simp only [hz,show ¬((ss.length:Int)<(ss.length:Int)) from by omega,decide_false,cond_false])]
 ·rw [fM_all];unfold onB;have hall:(ss.zipIdx.all fun p=>decide (x6=4) || onP x1 p)=(decide (x6=4) || ss.zipIdx.all (onP x1)):=by
   cases decide (x6=4) with
   | true=>simp
   | false=>simp
  rw [hall];cases (decide (x6=4) || ss.zipIdx.all (onP x1)) with
  | false=>rfl
  | true=>
   have hf:∀(L:List (ShT × Nat)) (s:List (List Ed)),L.foldl (fun s p=>s++[ow p.1]) s=s++L.map (fun p=>ow p.1):=by
    intro L;induction L with
    | nil=>intro s;simp
    | cons y L ih=>intro s;rw [List.foldl_cons,ih];simp
   have hmap:ss.zipIdx.map (fun p=>ow p.1)=ss.map ow:=by
    have h9:(ss.zipIdx.map Prod.fst).map ow=ss.map ow:=by rw [List.zipIdx_map_fst]
    rw [<-h9,List.map_map];rfl
   simp only [if_true,Option.bind_some,hf,List.nil_append,hmap];rw [h_sWholeEdges _ _ (by simpa using hs) ht];simp
 ·obtain ⟨hp1,hp2⟩:=zip_any hp;have hi:=(List.getElem?_eq_some_iff.1 hp1).1;obtain ⟨y,v⟩:=p;simp only at hp1 hp2;subst hp2;have hyl:=hy y (List.mem_of_getElem? hp1);have hol:=ow_len y;simp only [show ((v:Int)<(ss.length:Int)) from by omega,decide_true,cond_true];rw [bnd_nat hi,hp1,Option.bind_some,w_sOwned y hyl,Option.bind_some,decide_eq_true (by simp only [List.length_cons,List.length_nil];omega),cond_true,wr1 (by omega),h_sInside x1 (ow y) _ h1 (by omega)];simp only [Option.bind_some,filter_len,show ((v+1:Nat):Int)=(v:Int)+1 from rfl];cases hA:(ow y).all (insP x1 ((v:Int)+1)) with
  | true=>
   have ho:onP x1 (y,v)=true:=hA;rw [if_pos (by rw [ho,Bool.or_true])];cases decide (x6=4)<;>rfl
  | false=>
   have ho:onP x1 (y,v)=false:=hA;cases h4:decide (x6=4) with
   | true=>rw [if_pos (by rfl)];rfl
   | false=>rw [if_neg (by rw [ho];simp)];rfl
end
theorem flat_len:∀ss:List ShT,(ss.map ow).flatten.length+ss.length<=z_ShardS ss
 | []=>by simp [z_ShardS]
 | y::ss=>by
  have ih:=flat_len ss;have ho:=ow_len y;unfold z_ShardS at ih ⊢;simp only [List.map_cons,List.flatten_cons,List.length_append,List.length_cons,List.sum_cons];omega
theorem filt_sum {α:Type} (p q:α->Bool):∀l:List α,(∀x,x∈l->(p x=true/\q x=false)\/(p x=false/\q x=true))->(l.filter p).length+(l.filter q).length=l.length
 | [],_=>by simp
 | x::l,h=>by
  have ih:=filt_sum p q l fun y hy=>h y (List.mem_cons_of_mem _ hy)
  rw [List.filter_cons,List.filter_cons,List.length_cons];rcases h x (List.mem_cons_self ..) with ⟨h1,h2⟩|⟨h1,h2⟩
  ·rw [h1,h2];simp only [if_true,Bool.false_eq_true,if_false,List.length_cons];omega
  ·rw [h1,h2];simp only [if_true,Bool.false_eq_true,if_false,List.length_cons];omega
theorem ins_cnt {l:List Ed} {e:Ed} (h:e∉l):(ins l e).length=l.length+1:=by
 unfold ins;have:=filt_sum (fun y=>lsB y e) (fun y=>lsB e y) l fun x hx=>by
  have hne:x≠e:=fun he=>h (he▸hx)
  obtain ⟨a,b⟩:=x;obtain ⟨c,d⟩:=e;have hcd:¬(a=c/\b=d):=fun hh=>hne (by rw [hh.1,hh.2])
  simp only [lsB];by_cases h1:a<c
  ·left;refine ⟨by rw [decide_eq_true h1];rfl,?_⟩;rw [decide_eq_false (show ¬c<a from by omega),decide_eq_false (show ¬c=a from by omega)];rfl
  ·by_cases h2:c<a
   ·right;refine ⟨?_,by rw [decide_eq_true h2];rfl⟩;rw [decide_eq_false h1,decide_eq_false (show ¬a=c from by omega)];rfl
   ·have:a=c:=by omega
    subst this;by_cases h3:b<d
    ·left;refine ⟨by rw [decide_eq_true h3,decide_eq_true rfl];simp,?_⟩;rw [decide_eq_false (show ¬d<b from by omega),decide_eq_false h1];simp
    ·right;have:d<b:=by
      have:b≠d:=fun hh=>hcd ⟨rfl,hh⟩
      omega
     refine ⟨by rw [decide_eq_false h3,decide_eq_false h1];simp,?_⟩;rw [decide_eq_true this,decide_eq_true rfl];simp
 simp only [List.length_append,List.length_cons,List.length_nil];omega
theorem stE_len:∀{A:List Ed} {s s':List Ed},fM stE s A=some s'->s'.length=s.length+A.length
 | [],s,s',h=>by simp only [fM,Option.some.injEq] at h;subst h;simp
 | e::A,s,s',h=>by
  rw [fM] at h;cases he:stE s e with
  | none=>rw [he] at h;cases h
  | some s1=>
   rw [he] at h;obtain ⟨h1,rfl⟩:=stE_some he;have:=stE_len h;rw [ins_cnt h1] at this;rw [List.length_cons];omega
theorem fo_len (n:Int):∀{l:List Sd6} {es es':List Ed},es.length<=67->fM (stFo n) es l=some es'->es'.length<=67
 | [],es,es',h0,h=>by simp only [fM,Option.some.injEq] at h;subst h;exact h0
 | y::l,es,es',h0,h=>by
  rw [fM] at h;unfold stFo at h;split at h
  ·exact fo_len n (nxF_len h0) h
  ·cases h
theorem fo_fold (n:Int):∀{l:List Sd6} {b:Bool} {es es':List Ed},fM (stFo n) es l=some es'->(l.foldl (stI n) (b,n,es)).2=(n,es')
 | [],b,es,es',h=>by simp only [fM,Option.some.injEq] at h;subst h;rfl
 | y::l,b,es,es',h=>by
  rw [fM] at h;unfold stFo at h;split at h
  ·rw [List.foldl_cons];exact fo_fold n h
  ·cases h
theorem w_isameEdges (a b:List Ed) (ha:a.length<=maxLen):g_isameEdges (a,b)=some (decide (a=b),()):=by
 rw [<-h_sl05SameEdges a b ha];show f_isameEdges BIG _=f_sl05SameEdges BIG _;rw [e_isameEdges,e_sl05SameEdges];all_goals rfl
theorem w_isameInts (a b:List Int) (ha:a.length<=maxLen):g_isameInts (a,b)=some (decide (a=b),()):=by
 rw [<-h_sl05SameInts a b ha];show f_isameInts BIG _=f_sl05SameInts BIG _;rw [e_isameInts,e_sl05SameInts];all_goals rfl
def agB (n:Int) (x2:List Ed) (x3:List (List Int)) (x9:Int) (x14:List Sd) (ss:List ShT):Bool:=
 if x9=0 then match fM (stFo n) [] x14 with
  | none=>false
  | some es=>if (resW (fM stE [] (x2++(ss.map ow).flatten))).2&&((wlR n x3 x2).2&&decide ((resW (fM stE [] (x2++(ss.map ow).flatten))).1=es)) then decide ((wlR n x3 x2).1=if grB n es then labs n.toNat es else []) else false
 else true
theorem wl_nat {n:Int} {x2:List Ed} {x3:List (List Int)} (h:(wlR n x3 x2).2=true):∃N:Nat,n=(N:Int):=by
 unfold wlR at h;split at h
 ·rename_i hb;unfold wlB at hb;simp only [Bool.and_eq_true,inB_t] at hb;exact ⟨n.toNat,by omega⟩
 ·cases h
section
variable (n x0:Int) (x1:List Int) (x2:List Ed) (x3:List (List Int)) (x4:List Int) (x5 x6 x7 x8 x9 x10 x11:Int) (x12:List Ed) (x13:Int) (x14:List Sd) (ss:List ShT) (ds:List (List Fl)) (us:List Bool) (ps:List Pk) (cs:List Cl7) (rs:List Rc) (hn:n<=9223372036854775807) (h3:x3.length<=1048576) (h14:x14.length<=1048576) (hs:ss.length<=1048576) (hy:∀y,y∈ss->y.2.2.1.length<=1048576) (ht:x2.length<=1048576/\x2.length+(ss.map ow).flatten.length<=2000000)
include hn h3 h14 hs hy ht
theorem w_iAgrees:g_iAgrees (n,x0,x1,x2,x3,x4,x5,x6,x7,x8,x9,x10,x11,x12,x13,x14,ss,ds,us,ps,cs,rs)=some (agB n x2 x3 x9 x14 ss,()):=by
 have hm:maxLen=9223372036854775807:=by decide
 show f_iAgrees BIG _=_;rw [e_iAgrees];dsimp only;rw [h_iBusy,Option.bind_some];unfold agB;by_cases h9:x9=0;case neg=>rw [decide_eq_false h9,if_neg h9];rfl
 rw [decide_eq_true h9,if_pos h9];simp only [Bool.not_true,cond_false];rw [h_imade n x14 hn h14,Option.bind_some,w_iwebs n x0 x1 x2 x3 x4 x5 x6 x7 x8 x9 x10 x11 x12 x13 x14 ss ds us ps cs rs hs hy,Option.bind_some,h_iWholeEdges _ _ (by simpa using hs) ht.2,Option.bind_some,w_iWholeLabels n x3 x2 h3 (by omega),Option.bind_some];simp only;rw [fol_eq n x14 true []];cases hM:fM (stFo n) [] x14 with
 | none=>simp
 | some es=>
  have hfo:=fo_fold n (b:=true) hM;have hel:=fo_len n (by simp) hM;rw [hfo];simp only [Option.isSome_some,Bool.and_true,Bool.true_and,cond_true];cases hW:(resW (fM stE [] (x2++(ss.map ow).flatten))).2 with
  | false=>simp
  | true=>
   have hwl:(resW (fM stE [] (x2++(ss.map ow).flatten))).1.length<=maxLen:=by
    have:=resW_len (A:=x2++(ss.map ow).flatten);rw [List.length_append] at this;omega
   cases hL:(wlR n x3 x2).2 with
   | false=>simp
   | true=>
    obtain ⟨N,rfl⟩:=wl_nat hL;simp only [cond_true,w_isameEdges _ es hwl,Option.bind_some,Bool.true_and];by_cases hE:(resW (fM stE [] (x2++(ss.map ow).flatten))).1=es
    ·rw [decide_eq_true hE,cond_true,h_iLabels N es (by omega),Option.bind_some];have hll:(wlR (N:Int) x3 x2).1.length<=maxLen:=by
      unfold wlR;split
      ·simp only [labs_len];omega
      ·simp
     rw [w_isameInts _ _ hll];simp
    ·rw [decide_eq_false hE];simp
theorem w_sAgrees:g_sAgrees (n,x0,x1,x2,x3,x4,x5,x6,x7,x8,x9,x10,x11,x12,x13,x14,ss,ds,us,ps,cs,rs)=some (agB n x2 x3 x9 x14 ss,()):=by
 have hm:maxLen=9223372036854775807:=by decide
 show f_sAgrees BIG _=_;rw [e_sAgrees];dsimp only;rw [h_sBusy,Option.bind_some];unfold agB;by_cases h9:x9=0;case neg=>rw [decide_eq_false h9,if_neg h9];rfl
 rw [decide_eq_true h9,if_pos h9];simp only [Bool.not_true,cond_false];rw [h_sl15Graph n x14 h14,Option.bind_some];rw [foldLoop ss (by omega) (fun i (s:List (List Ed))=>s.length=i) (fun s y=>s++[ow y]) id rfl (fun i s y _ h=>by simp only [List.length_append,List.length_cons,List.length_nil];omega) (fun self s i y hyy hs' => ?_) (fun self s _=>by simp)]
 ·have hf:∀(L:List ShT) (s:List (List Ed)),L.foldl (fun s y=>s++[ow y]) s=s++L.map ow:=by
   intro L;induction L with
   | nil=>intro s;simp
   | cons y L ih=>intro s;rw [List.foldl_cons,ih];simp
  rw [hf];simp only [id,List.nil_append,Option.bind_some];rw [h_sWholeEdges _ _ (by simpa using hs) ht.2,Option.bind_some,w_sWholeLabels n x3 x2 h3 (by omega),Option.bind_some];simp only;cases hM:fM (stFo n) [] x14 with
  | none=>simp
  | some es=>
   have hel:=fo_len n (by simp) hM;simp only [cond_true];cases hW:(resW (fM stE [] (x2++(ss.map ow).flatten))).2 with
   | false=>simp
   | true=>
    have hwl:(resW (fM stE [] (x2++(ss.map ow).flatten))).1.length<=maxLen:=by
     have:=resW_len (A:=x2++(ss.map ow).flatten);rw [List.length_append] at this;omega
    have hex:(resW (fM stE [] (x2++(ss.map ow).flatten))).1.length=x2.length+(ss.map ow).flatten.length:=by
     cases hF:fM stE [] (x2++(ss.map ow).flatten) with
     | none=>rw [hF] at hW;cases hW
     | some out=>
      have:=stE_len hF;rw [List.length_append] at this;simpa [resW] using this
    by_cases h1000:x2.length<=1000
    ·rw [if_pos h1000];cases hL:(wlR n x3 x2).2 with
     | false=>simp
     | true=>
      obtain ⟨N,rfl⟩:=wl_nat hL;simp only [cond_true,h_sl05SameEdges _ es hwl,Option.bind_some,Bool.true_and];by_cases hE:(resW (fM stE [] (x2++(ss.map ow).flatten))).1=es
      ·rw [decide_eq_true hE,cond_true,h_sLabels N es (by omega),Option.bind_some];have hll:(wlR (N:Int) x3 x2).1.length<=maxLen:=by
        unfold wlR;split
        ·simp only [labs_len];omega
        ·simp
       rw [h_sl05SameInts _ _ hll];simp
      ·rw [decide_eq_false hE];simp
    ·rw [if_neg h1000];have hE:¬(resW (fM stE [] (x2++(ss.map ow).flatten))).1=es:=by
      intro hE;rw [hE] at hex;omega
     rw [decide_eq_false hE];simp
 ·have hi:=(List.getElem?_eq_some_iff.1 hyy).1;simp only [show ((i:Int)<(ss.length:Int)) from by omega,decide_true,cond_true];rw [bnd_nat hi,hyy,Option.bind_some,w_sOwned y (hy y (List.mem_of_getElem? hyy)),Option.bind_some,decide_eq_true (by simp only [List.length_cons,List.length_nil];omega),cond_true,wr1 (by omega)]
end
theorem srt_nodup {es:List Ed} (h:Srt es):es.Nodup:=by
 refine List.Pairwise.imp (fun {a b} hab => ?_) h;rintro rfl;rw [lsB_irrefl] at hab;cases hab
theorem stE_fold:∀{A:List Ed} {s s':List Ed},fM stE s A=some s'->s'=A.foldl ins s
 | [],s,s',h=>by simp only [fM,Option.some.injEq] at h;exact h.symm
 | e::A,s,s',h=>by
  rw [fM] at h;cases he:stE s e with
  | none=>rw [he] at h;cases h
  | some s1=>
   rw [he] at h;obtain ⟨_,rfl⟩:=stE_some he;exact stE_fold (A:=A) (s:=ins s e) h
def relC (cuts es:List Ed):List Ed:=es.foldl ins cuts
def relI (own:List Int) (cuts es:List Ed) (a b:Int):List Ed:=(relC cuts es).filter (insP (own.set a.toNat b) b)
def relT (x0:Int) (x1:List Int) (x2:List Ed) (x3:List (List Int)) (x4:List Int) (x14:List Sd) (i op a b:Int) (es:List Ed):HdI:=
 if ∀e,e∈es->e∉x2 then
  (if (relI x1 x2 es a b).length=0 then sayT x0 (x1.set a.toNat b) (relC x2 es) x3 x4 x14 i op a b 1
   else ordT x0 (x1.set a.toNat b) ((relI x1 x2 es a b).foldl del (relC x2 es)) x3 x4 x14 i op a b b 4 (relI x1 x2 es a b) 0)
 else sayT x0 x1 x2 x3 x4 x14 i op a b 3
theorem relC_len (cuts:List Ed):∀es:List Ed,(relC cuts es).length<=cuts.length+es.length:=by
 unfold relC;intro es;induction es generalizing cuts with
 | nil=>simp
 | cons e es ih=>
  rw [List.foldl_cons,List.length_cons];have:=ih (ins cuts e);have:=ins_le cuts e;omega
theorem foldl_del_len (l:List Ed):∀cuts:List Ed,(l.foldl del cuts).length<=cuts.length:=by
 induction l with
 | nil=>intro c;simp
 | cons e l ih=>
  intro c;rw [List.foldl_cons];have:=ih (del c e);have:=del_le c e;omega
theorem ordGi (x0:Int) (x1:List Int) (x2:List Ed) (x3:List (List Int)) (x4:List Int) (x14:List Sd) (x5 x6 x7 x8 x9 x10 x11:Int) (x12:List Ed) (x13:Int) (i op a b sh q o:Int) (es:List Ed) (v:Int) (hn:x4.length<=1000000) (h1:1<=sh) (h2:sh<=x4.length) (h3:0<=x4.getD (sh-1).toNat 0/\x4.getD (sh-1).toNat 0<=1000000):g_iHead_order ((x0,x1,x2,x3,x4,x5,x6,x7,x8,x9,x10,x11,x12,x13,x14),(i,op,a,b),sh,(q,o,es,v))=some (2,(x0,x1,x2,x3,x4,i,op,a,b,sh,x4.getD (sh-1).toNat 0+1,o,es,v,x14)):=by
 have hi:(sh-1).toNat<x4.length:=by omega
 show f_iHead_order BIG _=_;rw [e_iHead_order];dsimp only;rw [wr (n:=sh-1) (by omega) (by omega),bnd_ok (by omega) (by omega),getD_at hi,Option.bind_some,wr (by omega) (by omega)]
theorem ordGs (x0:Int) (x1:List Int) (x2:List Ed) (x3:List (List Int)) (x4:List Int) (x14:List Sd) (x5 x6 x7 x8 x9 x10 x11:Int) (x12:List Ed) (x13:Int) (i op a b sh q o:Int) (es:List Ed) (v:Int) (hn:x4.length<=1000000) (h1:1<=sh) (h2:sh<=x4.length) (h3:0<=x4.getD (sh-1).toNat 0/\x4.getD (sh-1).toNat 0<=1000000):g_sl12Task_r ((x0,x1,x2,x3,x4,x5,x6,x7,x8,x9,x10,x11,x12,x13,x14),(i,op,a,b),sh,(q,o,es,v))=some (2,(x0,x1,x2,x3,x4,i,op,a,b,sh,x4.getD (sh-1).toNat 0+1,o,es,v,x14)):=by
 have hi:(sh-1).toNat<x4.length:=by omega
 show f_sl12Task_r BIG _=_;rw [e_sl12Task_r];dsimp only;rw [wr (n:=sh-1) (by omega) (by omega),bnd_ok (by omega) (by omega),getD_at hi,Option.bind_some,wr (by omega) (by omega)]
theorem sayR (x0:Int) (x1:List Int) (x2:List Ed) (x3:List (List Int)) (x4:List Int) (x14:List Sd) (x5 x6 x7 x8 x9 x10 x11:Int) (x12:List Ed) (x13:Int) (i op a b v:Int) (h:x14.length<=1048576):g_sl12Say_r ((x0,x1,x2,x3,x4,x5,x6,x7,x8,x9,x10,x11,x12,x13,x14),(i,op,a,b),v)=some ((),(x0,x1,x2,x3,x4,0,0,0,0,0,0,0,[],0,x14++[(i,i,op,a,b,v)])):=by
 show f_sl12Say_r BIG _=_;rw [e_sl12Say_r];dsimp only;rw [decide_eq_true (by simp only [List.length_cons,List.length_nil];omega),cond_true]
section
variable (x0:Int) (x1:List Int) (x2:List Ed) (x3:List (List Int)) (x4:List Int) (x14:List Sd) (i op a b:Int) (es:List Ed)
theorem w_iHead_released (h0:1<=x0/\x0<=12) (h1:(x1.length:Int)=x0) (h2:Srt x2/\x2.length<=66) (h3:x3.length<=3) (h4:x4.length=x3.length) (h14:x14.length<=80) (he:Srt es/\es.length<=66) (ha:0<=a/\a<=x0-1) (hb:1<=b/\b<=x3.length) (hn:∀j,j<x4.length->0<=x4.getD j 0/\x4.getD j 0<=1000000) :
  g_iHead_released ((x0,x1,x2,x3,x4,0,0,0,0,0,0,0,[],0,x14),(i,op,a,b),es)=some (frt (relT x0 x1 x2 x3 x4 x14 i op a b es)):=by
 have hm:maxLen=9223372036854775807:=by decide
 show f_iHead_released BIG _=_;rw [e_iHead_released];dsimp only;rw [exitLoop es (by omega) (fun _ (s:Hd)=>s=(x0,x1,x2,x3,x4,0,0,0,0,0,0,0,[],0,x14)) (fun s e=>if (!decide (e∈x2))=true then some s else none) ((1,(x0,x1,x2,x3,x4,0,0,0,0,0,0,0,[],0,x14++[(i,i,op,a,b,3)])):Int × Hd) rfl (fun j s y s' hy hs hst=>by
  split at hst
  ·cases hst;exact hs
  ·cases hst) (fun self s j y hy hs => ?_) (fun self s hs=>by simp)]
 ·rw [fM_all];have hc:(es.all fun e=>!decide (e∈x2))=decide (∀e,e∈es->e∉x2):=by
   rw [Bool.eq_iff_iff,List.all_eq_true,decide_eq_true_eq];exact ⟨fun h e he=>by simpa using h e he,fun h e he=>by simpa using h e he⟩
  rw [hc];unfold relT;by_cases hno:∀e,e∈es->e∉x2
  ·rw [decide_eq_true hno,if_pos rfl,if_pos hno];have hfold:∀(l:List Ed) (s:Hd),l.foldl (fun s _=>s) s=s:=by
    intro l;induction l with
    | nil=>intro s;rfl
    | cons e l ih=>intro s;rw [List.foldl_cons,ih]
   rw [hfold,Option.bind_some];simp only;rw [wr (n:=x0-1) (by omega) (by omega),h_iin',h_iin'];rw [show inB a 0 (x0-1)=true from inB_t.2 ha,show inB b 1 (x3.length:Int)=true from inB_t.2 hb];simp only [Option.bind_some,Bool.not_true,cond_false];have hnd:=srt_nodup he.1;rw [foldLoop es (by omega) (fun j (s:Hd)=>s=(x0,x1,(es.take j).foldl ins x2,x3,x4,0,0,0,0,0,0,0,[],0,x14)/\Srt s.2.2.1/\s.2.2.1.length<=66+j/\∀e,e∈es.drop j->e∉s.2.2.1) (fun s e=>(s.1,s.2.1,ins s.2.2.1 e,s.2.2.2)) id (by exact ⟨rfl,h2.1,by show x2.length<=66+0;omega,hno⟩) (fun j s y hy ⟨k1,k2,k3,k4⟩ => ?_) (fun self s j y hy ⟨k1,k2,k3,k4⟩ => ?_) (fun self s _=>by simp)]
   ·have hff:∀(l:List Ed) (c:List Ed),l.foldl (fun (s:Hd) e=>(s.1,s.2.1,ins s.2.2.1 e,s.2.2.2)) (x0,x1,c,x3,x4,0,0,0,0,0,0,0,[],0,x14)=(x0,x1,l.foldl ins c,x3,x4,0,0,0,0,0,0,0,[],0,x14):=by
     intro l;induction l with
     | nil=>intro c;rfl
     | cons e l ih=>intro c;rw [List.foldl_cons,List.foldl_cons,ih]
    have hai:a.toNat<x1.length:=by omega
    have hCl:=relC_len x2 es;have hIl:(relI x1 x2 es a b).length<=(relC x2 es).length:=List.length_filter_le _ _;rw [hff];simp only [id,Option.bind_some];rw [bnd_ok ha.1 (by omega),List.getElem?_eq_getElem hai,Option.bind_some,h_iInside _ _ _ (by rw [List.length_set];omega) (by show (relC x2 es).length<=_;omega),Option.bind_some];have e1:List.filter (insP (x1.set a.toNat b) b) (es.foldl ins x2)=relI x1 x2 es a b:=rfl;have e2:es.foldl ins x2=relC x2 es:=rfl;simp only [e1];rw [e2];by_cases hI:(relI x1 x2 es a b).length=0
    ·rw [decide_eq_true (by omega),cond_true,if_pos hI,w_iHead_say _ _ _ _ _ _ _ _ _ _ _ _ _ _ (by omega)];rfl
    ·rw [decide_eq_false (by omega),cond_false,if_neg hI];rw [foldLoop (relI x1 x2 es a b) (by omega) (fun j (s:Hd)=>s.2.2.1.length<=132) (fun s e=>(s.1,s.2.1,del s.2.2.1 e,s.2.2.2)) id (by simp only;omega) (fun j s y hy hs=>by
      have:=del_le s.2.2.1 y
      simp only;omega) (fun self s j y hy hs => ?_) (fun self s _=>by simp)]
     ·have hdd:∀(l:List Ed) (o:List Int) (c:List Ed),l.foldl (fun (s:Hd) e=>(s.1,s.2.1,del s.2.2.1 e,s.2.2.2)) (x0,o,c,x3,x4,0,0,0,0,0,0,0,[],0,x14)=(x0,o,l.foldl del c,x3,x4,0,0,0,0,0,0,0,[],0,x14):=by
       intro l o;induction l with
       | nil=>intro c;rfl
       | cons e l ih=>intro c;rw [List.foldl_cons,List.foldl_cons,ih]
      rw [hdd];simp only [id,Option.bind_some];rw [ordGi _ _ _ _ _ _ _ _ _ _ _ _ _ _ _ _ _ _ _ _ _ _ _ _ (by omega) hb.1 (by omega) (hn _ (by omega))];rfl
     ·have hj:=(List.getElem?_eq_some_iff.1 hy).1;simp only [show ((j:Int)<((relI x1 x2 es a b).length:Int)) from by omega,decide_true,cond_true];rw [bnd_nat hj,hy,Option.bind_some,w_iwithoutEdge _ _ (by omega),Option.bind_some,wr1 (by omega)]
   ·have hj:=(List.getElem?_eq_some_iff.1 hy).1;have ht:es.take (j+1)=es.take j++[y]:=by
     rw [List.take_succ_eq_append_getElem hj];rw [List.getElem?_eq_getElem hj,Option.some.injEq] at hy;rw [hy]
    have hd:es.drop j=y::es.drop (j+1):=by
     rw [List.drop_eq_getElem_cons hj];rw [List.getElem?_eq_getElem hj,Option.some.injEq] at hy;rw [hy]
    subst k1;refine ⟨?_,ins_srt k2,?_,fun e hee hin => ?_⟩
    ·rw [ht,List.foldl_append];rfl
    ·have:=ins_le ((es.take j).foldl ins x2) y;simp only at k3 ⊢;omega
    ·rcases ins_mem.1 hin with rfl|hin
     ·have hnn:(es.drop j).Nodup:=hnd.sublist (List.drop_sublist _ _);rw [hd,List.nodup_cons] at hnn;exact hnn.1 hee
     ·exact k4 e (by rw [hd];exact List.mem_cons_of_mem _ hee) hin
   ·have hj:=(List.getElem?_eq_some_iff.1 hy).1;simp only [show ((j:Int)<(es.length:Int)) from by omega,decide_true,cond_true];have hmem:y∈es.drop j:=by
     rw [List.drop_eq_getElem_cons hj];rw [List.getElem?_eq_getElem hj,Option.some.injEq] at hy;rw [hy];exact List.mem_cons_self ..
    rw [bnd_nat hj,hy,Option.bind_some,h_iwithEdge _ _ (by omega),fdI_ins k2 (k4 y hmem),Option.bind_some,wr1 (by omega)]
  ·rw [decide_eq_false hno,if_neg (by simp),if_neg hno];rfl
 ·have hj:=(List.getElem?_eq_some_iff.1 hy).1;simp only [show ((j:Int)<(es.length:Int)) from by omega,decide_true,cond_true];subst hs;rw [bnd_nat hj,hy,Option.bind_some,h_ihasEdge _ _ (by simp only;omega),Option.bind_some,wr1 (by omega)];simp only;by_cases hin:y∈x2
  ·rw [decide_eq_true hin,cond_true,w_iHead_say _ _ _ _ _ _ _ _ _ _ _ _ _ _ (by omega)];simp
  ·rw [decide_eq_false hin,cond_false];simp
theorem w_sl12Moved (x5 x6 x7 x8 x9 x10 x11:Int) (x12:List Ed) (x13:Int) (h0:1<=x0/\x0<=12) (h1:(x1.length:Int)=x0) (h2:Srt x2/\x2.length<=66) (h3:x3.length<=3) (h4:x4.length=x3.length) (h14:x14.length<=80) (he:Srt es/\es.length<=66) (ha:0<=a/\a<=x0-1) (hb:1<=b/\b<=x3.length) (hn:∀j,j<x4.length->0<=x4.getD j 0/\x4.getD j 0<=1000000) :
  g_sl12Moved ((x0,x1,x2,x3,x4,x5,x6,x7,x8,x9,x10,x11,x12,x13,x14),(i,op,a,b),es)=some (frt (relT x0 x1 x2 x3 x4 x14 i op a b es)):=by
 have hm:maxLen=9223372036854775807:=by decide
 show f_sl12Moved BIG _=_;rw [e_sl12Moved];dsimp only;rw [exitG es (by omega) (mk:=fun (s:Hd × List Ed) (j:Int)=>((s.1,s.2,j):Hd × List Ed × Int)) (I:=fun j (s:Hd × List Ed)=>s.1=(x0,x1,x2,x3,x4,x5,x6,x7,x8,x9,x10,x11,x12,x13,x14)/\s.2.length<=66+j) (st:=fun s e=>(stE s.2 e).map fun c=>(s.1,c)) (R:=id) (b:=((1,(x0,x1,x2,x3,x4,0,0,0,0,0,0,0,[],0,x14++[(i,i,op,a,b,3)])):Int × Hd)) (s0:=((x0,x1,x2,x3,x4,x5,x6,x7,x8,x9,x10,x11,x12,x13,x14),x2)) ⟨rfl,by simp only;omega⟩ (fun j s s' y hy ⟨k1,k2⟩ hst => ?_) (fun self s j y hy ⟨k1,k2⟩ => ?_) (fun self s hs=>by simp)]
 ·have hfm:∀(l:List Ed) (h:Hd) (c:List Ed),fM (fun (s:Hd × List Ed) e=>(stE s.2 e).map fun c=>(s.1,c)) (h,c) l=(fM stE c l).map fun c=>(h,c):=by
   intro l h;induction l with
   | nil=>intro c;rfl
   | cons e l ih=>
    intro c;rw [fM,fM];simp only;cases stE c e with
    | none=>rfl
    | some c'=>simp only [Option.map_some,Option.bind_some,ih]
  rw [hfm];unfold relT;by_cases hno:∀e,e∈es->e∉x2
  ·rw [if_pos hno];obtain ⟨s',hs'⟩:=fM_ok (s:=x2) (srt_nodup he.1) hno;have hse:=stE_fold hs';rw [hs'];have hs2:s'=relC x2 es:=hse;subst hs2;have hai:a.toNat<x1.length:=by omega
   have hCl:=relC_len x2 es;have hIl:(relI x1 x2 es a b).length<=(relC x2 es).length:=List.length_filter_le _ _;simp only [Option.map_some,id,Option.bind_some];rw [bnd_ok ha.1 (by omega),List.getElem?_eq_getElem hai,Option.bind_some,h_sInside _ _ _ (by rw [List.length_set];omega) (by omega),Option.bind_some];have e1:List.filter (insP (x1.set a.toNat b) b) (relC x2 es)=relI x1 x2 es a b:=rfl;simp only [e1];rw [foldLoop (relI x1 x2 es a b) (by omega) (fun j (s:List Ed)=>s.length<=132) del id (by omega) (fun j s y hy hs=>by
    have:=del_le s y
    omega) (fun self s j y hy hs => ?_) (fun self s _=>by simp)]
   ·simp only [id,Option.bind_some];by_cases hI:(relI x1 x2 es a b).length=0
    ·rw [decide_eq_true (by omega),cond_true,if_pos hI,List.length_eq_zero_iff.1 hI,sayR _ _ _ _ _ _ _ _ _ _ _ _ _ _ _ _ _ _ _ _ (by omega)];rfl
    ·rw [decide_eq_false (by omega),cond_false,if_neg hI,ordGs _ _ _ _ _ _ _ _ _ _ _ _ _ _ _ _ _ _ _ _ _ _ _ _ (by omega) hb.1 (by omega) (hn _ (by omega))];rfl
   ·have hj:=(List.getElem?_eq_some_iff.1 hy).1;simp only [show ((j:Int)<((relI x1 x2 es a b).length:Int)) from by omega,decide_true,cond_true];rw [bnd_nat hj,hy,Option.bind_some,h_sl05Without _ _ (by omega),Option.bind_some,wr1 (by omega)]
  ·rw [if_neg hno];have hnone:fM stE x2 es=none:=by
    cases hf:fM stE x2 es with
    | none=>rfl
    | some s'=>exact absurd (fM_some hf).2.1 hno
   rw [hnone];rfl
 ·obtain ⟨h,c⟩:=s;simp only at k1 k2 hst;cases hc:stE c y with
  | none=>rw [hc] at hst;cases hst
  | some c'=>
   rw [hc] at hst;simp only [Option.map_some,Option.some.injEq] at hst;subst hst;obtain ⟨_,rfl⟩:=stE_some hc;have:=ins_le c y;exact ⟨k1,by simp only;omega⟩
 ·obtain ⟨h,c⟩:=s;simp only at k1 k2;subst k1;have hj:=(List.getElem?_eq_some_iff.1 hy).1;simp only [show ((j:Int)<(es.length:Int)) from by omega,decide_true,cond_true];rw [bnd_nat hj,hy,Option.bind_some,h_sl05Has _ _ (by omega),Option.bind_some,wr1 (by omega)];unfold stE;by_cases hin:y∈c
  ·rw [decide_eq_true hin,cond_true,sayR _ _ _ _ _ _ _ _ _ _ _ _ _ _ _ _ _ _ _ _ (by omega),if_pos hin];rfl
  ·rw [decide_eq_false hin,cond_false,if_neg hin,bnd_nat hj,hy,Option.bind_some,h_sl05Put _ _ (by omega),Option.bind_some];rfl
end
noncomputable def heOk (x0:Int) (x1:List Int) (x2:List Ed) (x3:List (List Int)) (x4:List Int) (x5 x6 x7 x8 x9 x10 x11:Int) (x12:List Ed) (x13:Int) (x14:List Sd) (sh:Int) (y:An):Bool:=
 hdB x0 x1 x2 x3 x4 x14 (tkB x0 x3.length x4 x14 x5 x6 x7 x8 x9 (x10,x11,x12,x13))&&(ansB x0 y&&(!decide (x9=0)&&(decide (sh=x9)&&decide (y.1=x10))))
def heM (x0:Int) (x1:List Int) (x2:List Ed) (x3:List (List Int)) (x4:List Int) (x14:List Sd) (i op a b q:Int) (ok:Bool) (es:List Ed):HdI:=
 if op=4 then (if q=3 then relT x0 x1 x2 x3 x4 x14 i op a b es else sayT x0 x1 x2 x3 x4 x14 i op a b 1)
 else sayT x0 x1 x2 x3 x4 x14 i op a b (if ok then 1 else 2)
noncomputable def heR (x0:Int) (x1:List Int) (x2:List Ed) (x3:List (List Int)) (x4:List Int) (x5 x6 x7 x8 x9 x10 x11:Int) (x12:List Ed) (x13:Int) (x14:List Sd) (sh:Int) (y:An):HdI:=
 if heOk x0 x1 x2 x3 x4 x5 x6 x7 x8 x9 x10 x11 x12 x13 x14 sh y=true then heM x0 x1 x2 (x3.set (sh-1).toNat y.2.2.2) (x4.set (sh-1).toNat y.1) x14 x5 x6 x7 x8 x11 y.2.1 y.2.2.1 else (x0,x1,x2,x3,x4,x5,x6,x7,x8,x9,x10,x11,x12,x13,x14,0)
theorem he_free {x0:Int} {x1:List Int} {x2:List Ed} {x3:List (List Int)} {x4:List Int} {x5 x6 x7 x8 x9 x10 x11:Int} {x12:List Ed} {x13:Int} {x14:List Sd} {sh:Int} {y:An} (h:heOk x0 x1 x2 x3 x4 x5 x6 x7 x8 x9 x10 x11 x12 x13 x14 sh y=true) :
  HdF x0 x1 x2 x3 x4 x14/\ansB x0 y=true/\sh=x9/\(1<=sh/\sh<=x3.length)/\rtB x0 x3.length x6 x7 x8=true:=by
 unfold heOk at h;simp only [Bool.and_eq_true,decide_eq_true_eq,Bool.not_eq_true',decide_eq_false_iff_not] at h;obtain ⟨h1,h2,h3,h4,h5⟩:=h;obtain ⟨hF,ht⟩:=hd_F h1;unfold tkB at ht;rw [Bool.or_eq_true] at ht;rcases ht with ht|ht
 ·unfold tB at ht;simp only [Bool.and_eq_true,decide_eq_true_eq] at ht;exact absurd ht.2.1 h3
 ·simp only [Bool.and_eq_true,inB_t] at ht;exact ⟨hF,h2,h4,by rw [h4];exact ht.2.1,ht.1.2.2⟩
theorem getD_set_le {l:List Int} {i:Nat} {v:Int} (h:∀j,j<l.length->0<=l.getD j 0/\l.getD j 0<=1000000) (hv:0<=v/\v<=1000000):∀j,j<(l.set i v).length->0<=(l.set i v).getD j 0/\(l.set i v).getD j 0<=1000000:=by
 intro j hj;rw [List.length_set] at hj;by_cases hij:i=j
 ·subst hij;rw [gD (List.getElem?_set_self hj)];exact hv
 ·rw [gD ((List.getElem?_set_ne hij).trans (getD_at hj))];exact h j hj
section
variable {x0:Int} {x1:List Int} {x2:List Ed} {x3:List (List Int)} {x4:List Int} {x14:List Sd} (i op a b:Int) (es:List Ed)
theorem relT_len (h2:x2.length<=66) (he:es.length<=66) (h1:x1.length<=12) (h14:x14.length<=80) :
  ∃(w c:_) (t1 t2 t3 t4 t5 t6 t7:Int) (t8:List Ed) (t9:Int) (s:List Sd) (m:Int),relT x0 x1 x2 x3 x4 x14 i op a b es=(x0,w,c,x3,x4,t1,t2,t3,t4,t5,t6,t7,t8,t9,s,m)/\w.length<=12/\c.length<=132/\t8.length<=132/\s.length<=81:=by
 have hCl:=relC_len x2 es;have hIl:(relI x1 x2 es a b).length<=(relC x2 es).length:=List.length_filter_le _ _;have hd:=foldl_del_len (relI x1 x2 es a b) (relC x2 es);unfold relT;split
 ·split
  ·exact ⟨_,_,_,_,_,_,_,_,_,_,_,_,_,rfl,by rw [List.length_set];exact h1,by omega,by simp,by simp;omega⟩
  ·exact ⟨_,_,_,_,_,_,_,_,_,_,_,_,_,rfl,by rw [List.length_set];exact h1,by omega,by omega,by omega⟩
 ·exact ⟨_,_,_,_,_,_,_,_,_,_,_,_,_,rfl,h1,by omega,by simp,by simp;omega⟩
theorem heM_len (q:Int) (ok:Bool) (h2:x2.length<=66) (he:es.length<=66) (h1:x1.length<=12) (h14:x14.length<=80) :
  ∃(w c:_) (t1 t2 t3 t4 t5 t6 t7:Int) (t8:List Ed) (t9:Int) (s:List Sd) (m:Int),heM x0 x1 x2 x3 x4 x14 i op a b q ok es=(x0,w,c,x3,x4,t1,t2,t3,t4,t5,t6,t7,t8,t9,s,m)/\w.length<=12/\c.length<=132/\t8.length<=132/\s.length<=81:=by
 have say:∀v,∃(w c:_) (t1 t2 t3 t4 t5 t6 t7:Int) (t8:List Ed) (t9:Int) (s:List Sd) (m:Int),sayT x0 x1 x2 x3 x4 x14 i op a b v=(x0,w,c,x3,x4,t1,t2,t3,t4,t5,t6,t7,t8,t9,s,m)/\w.length<=12/\c.length<=132/\t8.length<=132/\s.length<=81:=fun v=>⟨_,_,_,_,_,_,_,_,_,_,_,_,_,rfl,h1,by omega,by simp,by simp;omega⟩
 unfold heM;split
 ·split
  ·exact relT_len i op a b es h2 he h1 h14
  ·exact say _
 ·exact say _
end
section
variable (x0:Int) (x1:List Int) (x2:List Ed) (x3:List (List Int)) (x4:List Int) (x5 x6 x7 x8 x9 x10 x11:Int) (x12:List Ed) (x13:Int) (x14:List Sd) (sh:Int) (y0:Int) (y1:Bool) (y2:List Ed) (y3:List Int) (h1:x1.length<=1048576) (h2:x2.length<=1048576) (h3:x3.length<=1048576/\∀y,y∈x3->y.length<=1048576) (h4:x4.length<=1048576) (h12:x12.length<=1048576) (h14:x14.length<=1048576) (hy2:y2.length<=1048576) (hy3:y3.length<=1048576)
include h1 h2 h3 h4 h12 h14 hy2 hy3
theorem w_iHear:g_iHear ((x0,x1,x2,x3,x4,x5,x6,x7,x8,x9,x10,x11,x12,x13,x14),sh,(y0,y1,y2,y3))=some (heR x0 x1 x2 x3 x4 x5 x6 x7 x8 x9 x10 x11 x12 x13 x14 sh (y0,y1,y2,y3),()):=by
 have hm:maxLen=9223372036854775807:=by decide
 show f_iHear BIG _=_;rw [e_iHear,w_icopyHead x0 x1 x2 x3 x4 x5 x6 x7 x8 x9 x10 x11 x12 x13 x14 h1 h2 h3 h4 h12 h14,Option.bind_some];dsimp only;rw [w_iHeadOk x0 x1 x2 x3 x4 x5 x6 x7 x8 x9 x10 x11 x12 x13 x14 h1 h2 h3 h12 h14,h_iAnswerOk x0 (y0,y1,y2,y3) hy2 hy3,h_iBusy];have hx:(Option.bind (some (hdB x0 x1 x2 x3 x4 x14 (tkB x0 x3.length x4 x14 x5 x6 x7 x8 x9 (x10,x11,x12,x13)),())) fun r1:Bool × Unit=>
   bif !r1.1 then some true else Option.bind (some (ansB x0 (y0,y1,y2,y3),())) fun r2:Bool × Unit=>bif !r2.1 then some true else Option.bind (some (!decide (x9=0),())) fun r3:Bool × Unit=>bif !r3.1 then some true else bif !decide (sh=x9) then some true else some (!decide (y0=x10)))=some (!heOk x0 x1 x2 x3 x4 x5 x6 x7 x8 x9 x10 x11 x12 x13 x14 sh (y0,y1,y2,y3)):=by
  unfold heOk;simp only [Option.bind_some];cases hdB x0 x1 x2 x3 x4 x14 (tkB x0 x3.length x4 x14 x5 x6 x7 x8 x9 (x10,x11,x12,x13))<;>cases ansB x0 (y0,y1,y2,y3)<;>cases decide (x9=0)<;>cases decide (sh=x9)<;>cases decide (y0=x10)<;>rfl
 refine (congrArg (fun o=>Option.bind o _) hx).trans ?_;unfold heR;cases hok:heOk x0 x1 x2 x3 x4 x5 x6 x7 x8 x9 x10 x11 x12 x13 x14 sh (y0,y1,y2,y3) with
 | false=>rfl
 | true=>
  obtain ⟨hF,hA,hs,hsr,hr⟩:=he_free hok;obtain ⟨r1,r2,r3,r4⟩:=rt_in hr;obtain ⟨a1,a2,a3,a4,a5,a6,a7⟩:=ansB_in hA;have hcl:=eOk_len hF.cuts;have hel:=eOk_len a5;have hsd:=hF.said;have hk:=hF.k;have hnum:=hF.nums;have hn4:=getD_set_le (l:=x4) (i:=(sh-1).toNat) (fun j hj=>by have:=(hF.o3 j (by omega)).2;omega) (show 0<=y0/\y0<=1000000 by simp only at a3 a4;omega);have e4:x4[(sh-1).toNat]?=some (x4.getD (sh-1).toNat 0):=getD_at (by omega);have e3:=List.getElem?_eq_getElem (l:=x3) (i:=(sh-1).toNat) (by omega);simp only [Bool.not_true,Option.bind_some,cond_false,if_true];rw [wr (n:=sh-1) (by omega) (by omega),bnd_ok (by omega) (by omega),e4,Option.bind_some,w_icopyInts y3 hy3,Option.bind_some,bnd_ok (by omega) (by omega),e3,Option.bind_some];unfold heM;by_cases h6:x6=4
  ·subst h6;simp only [decide_true,Bool.not_true,cond_false,if_true];by_cases h11:x11=3
   ·rw [decide_eq_true h11,cond_true,if_pos h11,w_iHead_released _ _ _ _ _ _ _ _ _ _ _ hF.n hF.own ⟨(eOk_srt hF.cuts).2.1,by omega⟩ (by rw [List.length_set];omega) (by rw [List.length_set,List.length_set];omega) (by omega) ⟨(eOk_srt a5).2.1,by omega⟩ r2 (by rw [List.length_set];exact r3 rfl) hn4];rfl
   ·rw [decide_eq_false h11,cond_false,if_neg h11,w_iHead_say _ _ _ _ _ _ _ _ _ _ _ _ _ _ (by omega)];rfl
  ·simp only [decide_eq_false h6,Bool.not_false,cond_true,if_neg h6];rw [h_iyesNo,Option.bind_some,w_iHead_say _ _ _ _ _ _ _ _ _ _ _ _ _ _ (by omega)];rfl
theorem w_sHear:g_sHear ((x0,x1,x2,x3,x4,x5,x6,x7,x8,x9,x10,x11,x12,x13,x14),sh,(y0,y1,y2,y3))=some (heR x0 x1 x2 x3 x4 x5 x6 x7 x8 x9 x10 x11 x12 x13 x14 sh (y0,y1,y2,y3),()):=by
 have hm:maxLen=9223372036854775807:=by decide
 show f_sHear BIG _=_;rw [e_sHear,w_sl12Copy x0 x1 x2 x3 x4 x5 x6 x7 x8 x9 x10 x11 x12 x13 x14 h1 h2 h3 h4 h12 h14,Option.bind_some];dsimp only;rw [w_sHeadOk x0 x1 x2 x3 x4 x5 x6 x7 x8 x9 x10 x11 x12 x13 x14 h1 h2 h3 h12 h14,h_sAnswerOk x0 (y0,y1,y2,y3) hy2 hy3,h_sBusy];have hx:(Option.bind (some (hdB x0 x1 x2 x3 x4 x14 (tkB x0 x3.length x4 x14 x5 x6 x7 x8 x9 (x10,x11,x12,x13)),())) fun r1:Bool × Unit=>
   bif !r1.1 then some true else Option.bind (some (ansB x0 (y0,y1,y2,y3),())) fun r2:Bool × Unit=>bif !r2.1 then some true else Option.bind (some (!decide (x9=0),())) fun r3:Bool × Unit=>bif !r3.1 then some true else bif !decide (sh=x9) then some true else some (!decide (y0=x10)))=some (!heOk x0 x1 x2 x3 x4 x5 x6 x7 x8 x9 x10 x11 x12 x13 x14 sh (y0,y1,y2,y3)):=by
  unfold heOk;simp only [Option.bind_some];cases hdB x0 x1 x2 x3 x4 x14 (tkB x0 x3.length x4 x14 x5 x6 x7 x8 x9 (x10,x11,x12,x13))<;>cases ansB x0 (y0,y1,y2,y3)<;>cases decide (x9=0)<;>cases decide (sh=x9)<;>cases decide (y0=x10)<;>rfl
 refine (congrArg (fun o=>Option.bind o _) hx).trans ?_;unfold heR;cases hok:heOk x0 x1 x2 x3 x4 x5 x6 x7 x8 x9 x10 x11 x12 x13 x14 sh (y0,y1,y2,y3) with
 | false=>rfl
 | true=>
  obtain ⟨hF,hA,hs,hsr,hr⟩:=he_free hok;obtain ⟨r1,r2,r3,r4⟩:=rt_in hr;obtain ⟨a1,a2,a3,a4,a5,a6,a7⟩:=ansB_in hA;have hcl:=eOk_len hF.cuts;have hel:=eOk_len a5;have hsd:=hF.said;have hk:=hF.k;have hnum:=hF.nums;have hnn:=hF.n;have hown:=hF.own;have hn4:=getD_set_le (l:=x4) (i:=(sh-1).toNat) (fun j hj=>by have:=(hF.o3 j (by omega)).2;omega) (show 0<=y0/\y0<=1000000 by simp only at a3 a4;omega);have e4:x4[(sh-1).toNat]?=some (x4.getD (sh-1).toNat 0):=getD_at (by omega);have e3:=List.getElem?_eq_getElem (l:=x3) (i:=(sh-1).toNat) (by omega);have h3':(x3.set (sh-1).toNat y3).length<=1048576/\∀y,y∈x3.set (sh-1).toNat y3->y.length<=1048576:=⟨by rw [List.length_set];omega,fun y hy=>by
   rcases List.mem_or_eq_of_mem_set hy with hy|rfl
   ·exact h3.2 y hy
   ·exact hy3⟩
  simp only [Bool.not_true,Option.bind_some,cond_false,if_true];rw [wr (n:=sh-1) (by omega) (by omega),bnd_ok (by omega) (by omega),e4,Option.bind_some,decide_eq_true (by simp;omega),cond_true,bnd_ok (by omega) (by omega),e3,Option.bind_some];simp only [List.nil_append];unfold heM;by_cases h6:x6=4
  ·subst h6;simp only [decide_true,Bool.not_true,cond_true,cond_false,if_true,Option.bind_some];by_cases h11:x11=3
   ·simp only [decide_eq_true h11,cond_true,if_pos h11];rw [w_sl12Moved _ _ _ _ _ _ _ _ _ _ _ _ _ _ _ _ _ _ _ _ hF.n hF.own ⟨(eOk_srt hF.cuts).2.1,by omega⟩ (by rw [List.length_set];omega) (by rw [List.length_set,List.length_set];omega) (by omega) ⟨(eOk_srt a5).2.1,by omega⟩ r2 (by rw [List.length_set];exact r3 rfl) hn4,Option.bind_some];obtain ⟨w,c,t1,t2,t3,t4,t5,t6,t7,t8,t9,s,m,e,l1,l2,l3,l4⟩:=relT_len (x0:=x0) (x1:=x1) (x2:=x2) (x3:=x3.set (sh-1).toNat y3) (x4:=x4.set (sh-1).toNat y0) (x14:=x14) x5 4 x7 x8 y2 (by omega) (by show y2.length<=66;exact hel) (by omega) (by omega);rw [e];simp only [frt];rw [w_sl12Copy _ _ _ _ _ _ _ _ _ _ _ _ _ _ _ (by omega) (by omega) h3' (by rw [List.length_set];omega) (by omega) (by omega),Option.bind_some]
   ·simp only [decide_eq_false h11,cond_false,if_neg h11];rw [w_sl12Say _ _ _ _ _ _ _ _ _ _ _ _ _ _ (by omega)];rfl
  ·simp only [decide_eq_false h6,Bool.not_false,cond_true,cond_false,if_neg h6,Option.bind_some];cases y1 with
   | true=>
    simp only [Bool.not_true,cond_false,Option.bind_some,if_true];rw [w_sl12Say _ _ _ _ _ _ _ _ _ _ _ _ _ _ (by omega)];rfl
   | false=>
    simp only [Bool.not_false,cond_true,Option.bind_some,Bool.false_eq_true,if_false];rw [w_sl12Say _ _ _ _ _ _ _ _ _ _ _ _ _ _ (by omega)];rfl
end
theorem hiLoop {α B:Type} (a:List α) (hl:a.length<18446744073709551616) (p:α->Bool) (b:B) {F:(Int->Option (Unit ⊕ B))->Int->Option (Unit ⊕ B)}
  (hF:∀self (i:Nat) y,a[i]?=some y->F self (i:Int)=if p y then some (.inr b) else self ((i+1:Nat):Int))
  (hE:∀self,F self (a.length:Int)=some (.inl ())):loopT BIG F 0=some (if a.any p=true then .inr b else .inl ()):=by
 refine loop_eq (fun (x:Int)=>∃i:Nat,x=(i:Int)/\i<=a.length/\∀j (hj:j<a.length),j<i->p a[j]=false) (fun x=>a.length-x.toNat) (fun _=>_) (fun self x ⟨i,h1,h2,h3⟩ hs => ?_) (n:=BIG) (x:=0) (by simp;exact hl) ⟨0,rfl,by simp,fun j _ hj=>by omega⟩;subst h1;by_cases hi:i<a.length
 ·rw [hF self i a[i] (List.getElem?_eq_getElem hi)];cases hp:p a[i] with
  | true=>rw [if_pos rfl,if_pos (List.any_eq_true.2 ⟨a[i],List.getElem_mem hi,hp⟩)]
  | false=>
   rw [if_neg (by simp)];refine hs _ ⟨i+1,rfl,hi,fun j hj hji => ?_⟩ (by simp;omega);by_cases hij:j=i
   ·subst hij;exact hp
   ·exact h3 j hj (by omega)
 ·have:i=a.length:=by omega
  subst this;rw [hE,if_neg];intro h;obtain ⟨y,hy,hp⟩:=List.any_eq_true.1 h;obtain ⟨j,hj,rfl⟩:=List.getElem_of_mem hy;rw [h3 j hj hj] at hp;cases hp
structure HdS (h:Hd):Prop where
 a:h.2.1.length<=12
 b:h.2.2.1.length<=132
 c:h.2.2.2.1.length<=3/\∀y,y∈h.2.2.2.1->y.length<=12
 d:h.2.2.2.2.1.length<=3
 e:h.2.2.2.2.2.2.2.2.2.2.2.2.1.length<=132
 f:h.2.2.2.2.2.2.2.2.2.2.2.2.2.2.length<=81
def zH:Hd:=(0,[],[],[],[],0,0,0,0,0,0,0,[],0,[])
noncomputable def tkU (h:Hd) (i op a b:Int):HdI:=tkR h.1 h.2.1 h.2.2.1 h.2.2.2.1 h.2.2.2.2.1 h.2.2.2.2.2.1 h.2.2.2.2.2.2.1 h.2.2.2.2.2.2.2.1 h.2.2.2.2.2.2.2.2.1 h.2.2.2.2.2.2.2.2.2.1 h.2.2.2.2.2.2.2.2.2.2.1 h.2.2.2.2.2.2.2.2.2.2.2.1 h.2.2.2.2.2.2.2.2.2.2.2.2.1 h.2.2.2.2.2.2.2.2.2.2.2.2.2.1 h.2.2.2.2.2.2.2.2.2.2.2.2.2.2 i op a b
noncomputable def heU (h:Hd) (sh:Int) (y:An):HdI:=heR h.1 h.2.1 h.2.2.1 h.2.2.2.1 h.2.2.2.2.1 h.2.2.2.2.2.1 h.2.2.2.2.2.2.1 h.2.2.2.2.2.2.2.1 h.2.2.2.2.2.2.2.2.1 h.2.2.2.2.2.2.2.2.2.1 h.2.2.2.2.2.2.2.2.2.2.1 h.2.2.2.2.2.2.2.2.2.2.2.1 h.2.2.2.2.2.2.2.2.2.2.2.2.1 h.2.2.2.2.2.2.2.2.2.2.2.2.2.1 h.2.2.2.2.2.2.2.2.2.2.2.2.2.2 sh y
noncomputable def hfR (h:Hd) (y:Rc):Int × Hd:=
 if y.1=1 then frt (tkU h y.2.1 y.2.2.1 y.2.2.2.1 y.2.2.2.2.1)
 else if y.1=2 then frt (heU h y.2.2.2.2.2.1 (y.2.2.2.2.2.2.1,y.2.2.2.2.2.2.2.1,y.2.2.2.2.2.2.2.2.1,y.2.2.2.2.2.2.2.2.2.1)) else (0,h)
noncomputable def hfS (h:Hd) (y:Rc):Option Hd:=if (hfR h y).1=0 then none else some (hfR h y).2
def fl (h:Hd) (b:Bool):Int × List Int × List (Int × Int) × List (List Int) × List Int × Int × Int × Int × Int × Int × Int × Int × List (Int × Int) × Int × List (Int × Int × Int × Int × Int × Int) × Bool:=(h.1,h.2.1,h.2.2.1,h.2.2.2.1,h.2.2.2.2.1,h.2.2.2.2.2.1,h.2.2.2.2.2.2.1,h.2.2.2.2.2.2.2.1,h.2.2.2.2.2.2.2.2.1,h.2.2.2.2.2.2.2.2.2.1,h.2.2.2.2.2.2.2.2.2.2.1,h.2.2.2.2.2.2.2.2.2.2.2.1,h.2.2.2.2.2.2.2.2.2.2.2.2.1,h.2.2.2.2.2.2.2.2.2.2.2.2.2.1,h.2.2.2.2.2.2.2.2.2.2.2.2.2.2,b)
noncomputable def hfO (n k:Int) (rs:List Rc):Option Hd:=if (inB n 1 12&&inB k 1 3)=true then fM hfS (hdN n.toNat k.toNat) rs else none
noncomputable def hfF (n k:Int) (rs:List Rc):Int × List Int × List (Int × Int) × List (List Int) × List Int × Int × Int × Int × Int × Int × Int × Int × List (Int × Int) × Int × List (Int × Int × Int × Int × Int × Int) × Bool:=match hfO n k rs with
 | some h=>fl h true
 | none=>fl zH false
theorem lb_len {n:Int} {l:List Int} (h:lbOk n l=true):(l.length:Int)=n:=by
 unfold lbOk at h;split at h
 ·assumption
 ·cases h
theorem HdF.rows {x0:Int} {x1:List Int} {x2:List Ed} {x3:List (List Int)} {x4:List Int} {x14:List Sd} (h:HdF x0 x1 x2 x3 x4 x14):∀y,y∈x3->y.length<=12:=by
 intro y hy;obtain ⟨i,hi,rfl⟩:=List.getElem_of_mem hy;have h1:=(h.o3 i hi).1;rw [gD (List.getElem?_eq_getElem hi)] at h1;have:=lb_len h1;have:=h.n;omega
theorem hdN_sz (n k:Int) (h:(inB n 1 12&&inB k 1 3)=true):HdS (hdN n.toNat k.toNat):=by
 rw [Bool.and_eq_true,inB_t,inB_t] at h;refine ⟨by show (ownL _ _).length<=12;rw [ownL_len];omega,by show ([]:List Ed).length<=132;simp,⟨by show (List.replicate _ _).length<=3;rw [List.length_replicate];omega,fun y hy => ?_⟩,by show (List.replicate _ _).length<=3;rw [List.length_replicate];omega,by show ([]:List Ed).length<=132;simp,by show ([]:List Sd).length<=81;simp⟩;have hy':y∈List.replicate k.toNat (lab0 n.toNat):=hy;rw [List.mem_replicate] at hy';rw [hy'.2];simp only [lab0,List.length_map,List.length_range];omega
theorem hfS_sz {h h':Hd} {y:Rc} (hs:HdS h) (e:hfS h y=some h'):HdS h':=by
 obtain ⟨x0,x1,x2,x3,x4,x5,x6,x7,x8,x9,x10,x11,x12,x13,x14⟩:=h;unfold hfS at e;split at e;case isTrue=>cases e
 case isFalse hne=>
 cases e;unfold hfR at hne ⊢;split;case isTrue h1=>
  rw [if_pos h1] at hne;unfold tkU tkR at hne ⊢;split;case isFalse hno=>rw [if_neg hno] at hne;exact absurd rfl hne
  case isTrue hok=>
  obtain ⟨hF,_⟩:=tk_free hok;have hcl:=eOk_len hF.cuts;have hsd:=hF.said;have hn:=hF.n;have ho:=hF.own;have hk:=hF.k;have hnu:=hF.nums;obtain ⟨c,t1,t2,t3,t4,t5,t6,t7,t8,t9,s,m,er,l1,l2,l3⟩:=tkM_len x0 x1 x2 x3 x4 x14 y.2.1 y.2.2.1 y.2.2.2.1 y.2.2.2.2.1;rw [er];exact ⟨by show x1.length<=12;simp only at ho hn;omega,by show c.length<=132;simp only at hcl;omega,⟨by show x3.length<=3;exact hk.2,hF.rows⟩,by show x4.length<=3;simp only at hnu hk;omega,by show t8.length<=132;omega,by show s.length<=81;simp only at hsd;omega⟩
 case isFalse h1=>
 rw [if_neg h1] at hne;split;case isFalse h2=>rw [if_neg h2] at hne;exact absurd rfl hne
 case isTrue h2=>
 rw [if_pos h2] at hne;unfold heU heR at hne ⊢;split;case isFalse hno=>rw [if_neg hno] at hne;exact absurd rfl hne
 case isTrue hok=>
 obtain ⟨hF,hA,hsh,hsr,hr⟩:=he_free hok;obtain ⟨a1,a2,a3,a4,a5,a6,a7⟩:=ansB_in hA;have hcl:=eOk_len hF.cuts;have hel:=eOk_len a5;have hsd:=hF.said;have hn:=hF.n;have ho:=hF.own;have hk:=hF.k;have hnu:=hF.nums;simp only at hcl hel hsd hn ho hk hnu a6;obtain ⟨w,c,t1,t2,t3,t4,t5,t6,t7,t8,t9,s,m,er,l1,l2,l3,l4⟩:=heM_len (x0:=x0) (x1:=x1) (x2:=x2) (x3:=x3.set (y.2.2.2.2.2.1-1).toNat y.2.2.2.2.2.2.2.2.2.1) (x4:=x4.set (y.2.2.2.2.2.1-1).toNat y.2.2.2.2.2.2.1) (x14:=x14) x5 x6 x7 x8 y.2.2.2.2.2.2.2.2.1 x11 y.2.2.2.2.2.2.2.1 (by omega) (by omega) (by omega) (by omega);simp only;rw [er];refine ⟨l1,l2,⟨by show (x3.set _ _).length<=3;rw [List.length_set];exact hk.2,fun z hz => ?_⟩,by show (x4.set _ _).length<=3;rw [List.length_set];omega,l3,l4⟩;rcases List.mem_or_eq_of_mem_set hz with hz|rfl
 ·exact hF.rows z hz
 ·omega
theorem HdS.bd {h:Hd} (hs:HdS h):h.2.1.length<=1048576/\h.2.2.1.length<=1048576/\(h.2.2.2.1.length<=1048576/\∀y,y∈h.2.2.2.1->y.length<=1048576)/\h.2.2.2.2.1.length<=1048576/\h.2.2.2.2.2.2.2.2.2.2.2.2.1.length<=1048576/\h.2.2.2.2.2.2.2.2.2.2.2.2.2.2.length<=1048576:=by
 obtain ⟨a,b,c,d,e,f⟩:=hs;exact ⟨by omega,by omega,⟨by omega,fun y hy=>by have:=c.2 y hy;omega⟩,by omega,by omega,by omega⟩
theorem u_iTake {h:Hd} (hs:HdS h) (i op a b:Int):g_iTake (h,(i,op,a,b))=some (tkU h i op a b,()):=by
 obtain ⟨b1,b2,b3,b4,b5,b6⟩:=hs.bd;exact w_iTake _ _ _ _ _ _ _ _ _ _ _ _ _ _ _ i op a b b1 b2 b3 b4 b5 b6
theorem u_sTake {h:Hd} (hs:HdS h) (i op a b:Int):g_sTake (h,(i,op,a,b))=some (tkU h i op a b,()):=by
 obtain ⟨b1,b2,b3,b4,b5,b6⟩:=hs.bd;exact w_sTake _ _ _ _ _ _ _ _ _ _ _ _ _ _ _ i op a b b1 b2 b3 b4 b5 b6
theorem u_iHear {h:Hd} (hs:HdS h) (sh:Int) (y:An) (h2:y.2.2.1.length<=1048576) (h3:y.2.2.2.length<=1048576):g_iHear (h,sh,y)=some (heU h sh y,()):=by
 obtain ⟨b1,b2,b3,b4,b5,b6⟩:=hs.bd;exact w_iHear _ _ _ _ _ _ _ _ _ _ _ _ _ _ _ sh _ _ _ _ b1 b2 b3 b4 b5 b6 h2 h3
theorem u_sHear {h:Hd} (hs:HdS h) (sh:Int) (y:An) (h2:y.2.2.1.length<=1048576) (h3:y.2.2.2.length<=1048576):g_sHear (h,sh,y)=some (heU h sh y,()):=by
 obtain ⟨b1,b2,b3,b4,b5,b6⟩:=hs.bd;exact w_sHear _ _ _ _ _ _ _ _ _ _ _ _ _ _ _ sh _ _ _ _ b1 b2 b3 b4 b5 b6 h2 h3
def RcS (rs:List Rc):Prop:=rs.length<=1048576/\∀y,y∈rs->y.2.2.2.2.2.2.2.2.1.length<=1048576/\y.2.2.2.2.2.2.2.2.2.1.length<=1048576
theorem w_iHeadFrom (n k : Int) (rs : List Rc) (hz : RcS rs) : g_iHeadFrom (n, k, rs) = some (hfF n k rs, ()) := by
  have hm : maxLen = 9223372036854775807 := by decide
  show f_iHeadFrom BIG _ = _;rw [e_iHeadFrom];obtain ⟨r, hr, h1, _⟩ := h_iHeadNew n k;rw [h1, Option.bind_some];unfold hfF hfO;cases hc : (inB n 1 12 && inB k 1 3) with
  | false =>
    rw [hc] at hr;simp only [Bool.false_eq_true, if_false] at hr ⊢;subst hr;rfl
  | true =>
    rw [hc] at hr;simp only [if_true] at hr ⊢;subst hr;have hL := exitG (B := Hd × Bool) (F := fun self2 (x1 : Hd × Hd × Int) =>
      bif decide (x1.2.2 < (rs.length : Int)) then
       Option.bind (bnd rs.length x1.2.2 fun n3 =>
        Option.bind rs[n3]? fun y =>
        Option.bind (bif decide (y.1 = (1 : Int)) then
        Option.bind (g_iTake (x1.2.1, (y.2.1, y.2.2.1, y.2.2.2.1, y.2.2.2.2.1))) fun r5 =>
        some ((r5.1.1, r5.1.2.1, r5.1.2.2.1, r5.1.2.2.2.1, r5.1.2.2.2.2.1, r5.1.2.2.2.2.2.1, r5.1.2.2.2.2.2.2.1, r5.1.2.2.2.2.2.2.2.1, r5.1.2.2.2.2.2.2.2.2.1, r5.1.2.2.2.2.2.2.2.2.2.1, r5.1.2.2.2.2.2.2.2.2.2.2.1, r5.1.2.2.2.2.2.2.2.2.2.2.2.1, r5.1.2.2.2.2.2.2.2.2.2.2.2.2.1, r5.1.2.2.2.2.2.2.2.2.2.2.2.2.2.1, r5.1.2.2.2.2.2.2.2.2.2.2.2.2.2.2.1), r5.1.2.2.2.2.2.2.2.2.2.2.2.2.2.2.2)
       else bif decide (y.1 = (2 : Int)) then
        Option.bind (g_iHear (x1.2.1, y.2.2.2.2.2.1, (y.2.2.2.2.2.2.1, y.2.2.2.2.2.2.2.1, y.2.2.2.2.2.2.2.2.1, y.2.2.2.2.2.2.2.2.2.1))) fun r6 =>
        some ((r6.1.1, r6.1.2.1, r6.1.2.2.1, r6.1.2.2.2.1, r6.1.2.2.2.2.1, r6.1.2.2.2.2.2.1, r6.1.2.2.2.2.2.2.1, r6.1.2.2.2.2.2.2.2.1, r6.1.2.2.2.2.2.2.2.2.1, r6.1.2.2.2.2.2.2.2.2.2.1, r6.1.2.2.2.2.2.2.2.2.2.2.1, r6.1.2.2.2.2.2.2.2.2.2.2.2.1, r6.1.2.2.2.2.2.2.2.2.2.2.2.2.1, r6.1.2.2.2.2.2.2.2.2.2.2.2.2.2.1, r6.1.2.2.2.2.2.2.2.2.2.2.2.2.2.2.1), r6.1.2.2.2.2.2.2.2.2.2.2.2.2.2.2.2)
       else some (x1.2.1, (0 : Int)) : Option (Hd × Int)) fun x7 =>
        bif decide (x7.2 = (0 : Int)) then
         some (Sum.inr (zH, false))
        else some (Sum.inl (x1.1, x7.1)) : Option ((Hd × Hd) ⊕ (Hd × Bool))) fun y => match y with
       | .inl x8 =>
        self2 (x8.1, x8.2, IntKind.wrap .i64 (x1.2.2 + (1 : Int)))
       | .inr x8 =>
        some (Sum.inr (x8.1, x8.2))
      else some (Sum.inl (x1.1, x1.2.1))) rs (by have := hz.1; omega) (mk := fun (s : Hd) (j : Int) => ((zH, s, j) : Hd × Hd × Int)) (I := fun _ s => HdS s) (st := hfS) (R := fun s => ((zH, s) : Hd × Hd)) (b := ((zH, false) : Hd × Bool)) (s0 := hdN n.toNat k.toNat) (hdN_sz n k hc) (fun i s s' y hy hs hst => hfS_sz hs hst) (fun self s i y hy hs => ?_) (fun self s hs => by simp)
    · refine (congrArg (fun o => Option.bind o _) hL).trans ?_
      cases fM hfS (hdN n.toNat k.toNat) rs with
      | none => rfl
      | some h => rfl
    · have hi := (List.getElem?_eq_some_iff.1 hy).1
      have hyb := hz.2 y (List.mem_of_getElem? hy)
      have hlen := hz.1
      simp only [show ((i : Int) < (rs.length : Int)) from by omega, decide_true, cond_true]
      rw [bnd_nat hi, hy, Option.bind_some]
      have key : (bif decide (y.1 = (1 : Int)) then
        Option.bind (g_iTake (s, (y.2.1, y.2.2.1, y.2.2.2.1, y.2.2.2.2.1))) fun r5 =>
        some ((r5.1.1, r5.1.2.1, r5.1.2.2.1, r5.1.2.2.2.1, r5.1.2.2.2.2.1, r5.1.2.2.2.2.2.1, r5.1.2.2.2.2.2.2.1, r5.1.2.2.2.2.2.2.2.1, r5.1.2.2.2.2.2.2.2.2.1, r5.1.2.2.2.2.2.2.2.2.2.1, r5.1.2.2.2.2.2.2.2.2.2.2.1, r5.1.2.2.2.2.2.2.2.2.2.2.2.1, r5.1.2.2.2.2.2.2.2.2.2.2.2.2.1, r5.1.2.2.2.2.2.2.2.2.2.2.2.2.2.1, r5.1.2.2.2.2.2.2.2.2.2.2.2.2.2.2.1), r5.1.2.2.2.2.2.2.2.2.2.2.2.2.2.2.2)
       else bif decide (y.1 = (2 : Int)) then
        Option.bind (g_iHear (s, y.2.2.2.2.2.1, (y.2.2.2.2.2.2.1, y.2.2.2.2.2.2.2.1, y.2.2.2.2.2.2.2.2.1, y.2.2.2.2.2.2.2.2.2.1))) fun r6 =>
        some ((r6.1.1, r6.1.2.1, r6.1.2.2.1, r6.1.2.2.2.1, r6.1.2.2.2.2.1, r6.1.2.2.2.2.2.1, r6.1.2.2.2.2.2.2.1, r6.1.2.2.2.2.2.2.2.1, r6.1.2.2.2.2.2.2.2.2.1, r6.1.2.2.2.2.2.2.2.2.2.1, r6.1.2.2.2.2.2.2.2.2.2.2.1, r6.1.2.2.2.2.2.2.2.2.2.2.2.1, r6.1.2.2.2.2.2.2.2.2.2.2.2.2.1, r6.1.2.2.2.2.2.2.2.2.2.2.2.2.2.1, r6.1.2.2.2.2.2.2.2.2.2.2.2.2.2.2.1), r6.1.2.2.2.2.2.2.2.2.2.2.2.2.2.2.2)
       else some (s, (0 : Int)) : Option (Hd × Int)) = some ((hfR s y).2, (hfR s y).1) := by
        unfold hfR;by_cases c1 : y.1 = 1
        · rw [decide_eq_true c1, cond_true, if_pos c1, u_iTake hs, Option.bind_some]
          rfl
        · rw [decide_eq_false c1, cond_false, if_neg c1]
          by_cases c2 : y.1 = 2
          · rw [decide_eq_true c2, cond_true, if_pos c2, u_iHear hs _ _ hyb.1 hyb.2, Option.bind_some]
            rfl
          · rw [decide_eq_false c2, cond_false, if_neg c2]
      rw [key, Option.bind_some]
      unfold hfS
      by_cases c0 : (hfR s y).1 = 0
      · simp only [decide_eq_true c0, cond_true, if_pos c0, Option.bind_some]
      · simp only [decide_eq_false c0, cond_false, if_neg c0, Option.bind_some]
        rw [wr1 (by omega)]
theorem fM_appS {S α:Type} (st:S->α->Option S):∀(a b:List α) (s:S),fM st s (a++b)=(fM st s a).bind fun s'=>fM st s' b
 | [],b,s=>rfl
 | x::a,b,s=>by
  rw [List.cons_append,fM,fM];cases st s x with
  | none=>rfl
  | some s'=>simp only [Option.bind_some,fM_appS st a b]
theorem w_sHeadFrom (n k : Int) (rs : List Rc) (hz : RcS rs) : g_sHeadFrom (n, k, rs) = some (hfF n k rs, ()) := by
  have hm : maxLen = 9223372036854775807 := by decide
  show f_sHeadFrom BIG _ = _;rw [e_sHeadFrom];obtain ⟨r, hr, _, h1⟩ := h_iHeadNew n k;rw [h1, Option.bind_some];have hfin : ∀ b : Hd × Bool, (b.2 = true → hfO n k rs = some b.1 ∧ HdS b.1) ∧ (b.2 = false → hfO n k rs = none) → (bif !b.2 then
   some (((0 : Int), [], [], [], [], (0 : Int), (0 : Int), (0 : Int), (0 : Int), (0 : Int), (0 : Int), (0 : Int), [], (0 : Int), [], false), ())
  else Option.bind (g_sl12Copy b.1) fun r17 => some (fl r17.1 true, ())) = some (hfF n k rs, ()) := by
    intro b ⟨hb1, hb2⟩;obtain ⟨h, ok⟩ := b;unfold hfF;cases ok with
    | false => rw [hb2 rfl]; rfl
    | true =>
      obtain ⟨e1, e2⟩ := hb1 rfl;obtain ⟨b1, b2, b3, b4, b5, b6⟩ := e2.bd;rw [e1];have hcp : g_sl12Copy h = some (h, ()) := w_sl12Copy _ _ _ _ _ _ _ _ _ _ _ _ _ _ _ b1 b2 b3 b4 b5 b6;simp only [Bool.not_true, cond_false];rw [hcp];rfl
  refine loop_bind (P := fun o => o = some (hfF n k rs, ())) (fun (x : Hd × Bool × Int) => ∃ i : Nat, x.2.2 = (i : Int) ∧ i ≤ rs.length ∧ ((x.2.1 = true ∧ HdS x.1 ∧ (inB n 1 12 && inB k 1 3) = true ∧ fM hfS (hdN n.toNat k.toNat) (rs.take i) = some x.1) ∨ (x.2.1 = false ∧ hfO n k rs = none))) (fun x => rs.length - x.2.2.toNat) (fun _ (b : Hd × Bool) => (b.2 = true → hfO n k rs = some b.1 ∧ HdS b.1) ∧ (b.2 = false → hfO n k rs = none)) (by have := hz.1; simp [BIG]; omega) ⟨0, rfl, by omega, ?_⟩ (fun self x hx hself => ?_) (fun b hb => hfin b hb)
  · subst hr
    cases hc : (inB n 1 12 && inB k 1 3) with
    | true => exact .inl ⟨rfl, hdN_sz n k hc, rfl, rfl⟩
    | false =>
      refine .inr ⟨rfl, ?_⟩;unfold hfO;rw [hc]; rfl
  · obtain ⟨s, ok, j⟩ := x
    obtain ⟨i, g1, g2, g3⟩ := hx
    simp only at g1 g2 g3 hself ⊢
    subst g1
    have hlen := hz.1
    by_cases hi : i < rs.length
    · simp only [show ((i : Int) < (rs.length : Int)) from by omega, decide_true, cond_true, Option.bind_some]
      rcases g3 with ⟨rfl, hs, hc, hf⟩ | ⟨rfl, hno⟩
      · have hyb := hz.2 rs[i] (List.getElem_mem hi)
        have hy := List.getElem?_eq_getElem hi
        have key : (bnd rs.length (i : Int) fun n4 =>
       Option.bind rs[n4]? fun y5 =>
       bif decide (y5.1 = (1 : Int)) then
        bnd rs.length (i : Int) fun n6 =>
        Option.bind rs[n6]? fun y7 =>
        Option.bind (g_sTake (s, (y7.2.1, y7.2.2.1, y7.2.2.2.1, y7.2.2.2.2.1))) fun r8 =>
        some ((r8.1.1, r8.1.2.1, r8.1.2.2.1, r8.1.2.2.2.1, r8.1.2.2.2.2.1, r8.1.2.2.2.2.2.1, r8.1.2.2.2.2.2.2.1, r8.1.2.2.2.2.2.2.2.1, r8.1.2.2.2.2.2.2.2.2.1, r8.1.2.2.2.2.2.2.2.2.2.1, r8.1.2.2.2.2.2.2.2.2.2.2.1, r8.1.2.2.2.2.2.2.2.2.2.2.2.1, r8.1.2.2.2.2.2.2.2.2.2.2.2.2.1, r8.1.2.2.2.2.2.2.2.2.2.2.2.2.2.1, r8.1.2.2.2.2.2.2.2.2.2.2.2.2.2.2.1), r8.1.2.2.2.2.2.2.2.2.2.2.2.2.2.2.2)
       else bif decide (y5.1 = (2 : Int)) then
        bnd rs.length (i : Int) fun n9 =>
        Option.bind rs[n9]? fun y10 =>
        bnd rs.length (i : Int) fun n11 =>
        Option.bind rs[n11]? fun y12 =>
        Option.bind (g_sHear (s, y10.2.2.2.2.2.1, (y12.2.2.2.2.2.2.1, y12.2.2.2.2.2.2.2.1, y12.2.2.2.2.2.2.2.2.1, y12.2.2.2.2.2.2.2.2.2.1))) fun r13 =>
        some ((r13.1.1, r13.1.2.1, r13.1.2.2.1, r13.1.2.2.2.1, r13.1.2.2.2.2.1, r13.1.2.2.2.2.2.1, r13.1.2.2.2.2.2.2.1, r13.1.2.2.2.2.2.2.2.1, r13.1.2.2.2.2.2.2.2.2.1, r13.1.2.2.2.2.2.2.2.2.2.1, r13.1.2.2.2.2.2.2.2.2.2.2.1, r13.1.2.2.2.2.2.2.2.2.2.2.2.1, r13.1.2.2.2.2.2.2.2.2.2.2.2.2.1, r13.1.2.2.2.2.2.2.2.2.2.2.2.2.2.1, r13.1.2.2.2.2.2.2.2.2.2.2.2.2.2.2.1), r13.1.2.2.2.2.2.2.2.2.2.2.2.2.2.2.2)
       else some (s, (0 : Int)) : Option (Hd × Int)) = some ((hfR s rs[i]).2, (hfR s rs[i]).1) := by
          have bi : ∀ {B : Type} {k : Nat → Option B}, bnd rs.length (i : Int) k = k i := fun {B k} => bnd_nat hi
          simp only [bi, hy, Option.bind_some];generalize rs[i] = y at hyb;unfold hfR;by_cases c1 : y.1 = 1
          · rw [decide_eq_true c1, cond_true, if_pos c1, u_sTake hs, Option.bind_some]
            rfl
          · rw [decide_eq_false c1, cond_false, if_neg c1]
            by_cases c2 : y.1 = 2
            · rw [decide_eq_true c2, cond_true, if_pos c2, u_sHear hs _ _ hyb.1 hyb.2, Option.bind_some]
              rfl
            · rw [decide_eq_false c2, cond_false, if_neg c2]
        have htk : rs.take (i + 1) = rs.take i ++ [rs[i]] := List.take_succ_eq_append_getElem hi
        simp only [cond_true]
        rw [key]
        simp only [Option.bind_some]
        rw [wr1 (by omega)]
        by_cases c0 : (hfR s rs[i]).1 = 0
        · rw [decide_eq_true c0]
          refine hself _ ⟨i + 1, rfl, hi, .inr ⟨rfl, ?_⟩⟩ (by simp; omega)
          unfold hfO
          rw [hc, if_pos rfl]
          have : rs = rs.take i ++ (rs[i] :: rs.drop (i + 1)) := by
            rw [← List.drop_eq_getElem_cons hi, List.take_append_drop]
          rw [this, fM_appS, hf, Option.bind_some, fM]
          unfold hfS
          rw [if_pos c0]; rfl
        · rw [decide_eq_false c0]
          have hst : hfS s rs[i] = some (hfR s rs[i]).2 := by unfold hfS; rw [if_neg c0]
          refine hself _ ⟨i + 1, rfl, hi, .inl ⟨rfl, hfS_sz hs hst, hc, ?_⟩⟩ (by simp; omega)
          rw [htk, fM_appS, hf, Option.bind_some, fM, hst]
          rfl
      · simp only [cond_false]
        exact ⟨_, rfl, (fun h => by cases h), fun _ => hno⟩
    · have hil : i = rs.length := by omega
      subst hil
      simp only [show ¬ ((rs.length : Int) < (rs.length : Int)) from by omega, decide_false, cond_false, Option.bind_some]
      refine ⟨_, rfl, ?_⟩
      rcases g3 with ⟨rfl, hs, hc, hf⟩ | ⟨rfl, hno⟩
      · rw [List.take_length] at hf
        refine ⟨fun _ => ⟨?_, hs⟩, (fun h => by cases h)⟩
        unfold hfO
        rw [hc, if_pos rfl, hf]
      · exact ⟨(fun h => by cases h), fun _ => hno⟩
theorem fM_hfS:∀(l:List Rc) (h h':Hd),HdS h->fM hfS h l=some h'->HdS h'
 | [],h,h',hs,e=>by
  simp only [fM,Option.some.injEq] at e;rw [<-e];exact hs
 | y::l,h,h',hs,e=>by
  rw [fM] at e;cases hy:hfS h y with
  | none=>rw [hy] at e;cases e
  | some h1=>
   rw [hy] at e;exact fM_hfS l h1 h' (hfS_sz hs hy) e
theorem hfF_sz (n k:Int) (rs:List Rc):∃h b,hfF n k rs=fl h b/\HdS h:=by
 unfold hfF;cases hO:hfO n k rs with
 | none=>exact ⟨zH,false,rfl,⟨by show ([]:List Int).length<=12;simp,by show ([]:List Ed).length<=132;simp,⟨by show ([]:List (List Int)).length<=3;simp,fun y hy=>by cases hy⟩,by show ([]:List Int).length<=3;simp,by show ([]:List Ed).length<=132;simp,by show ([]:List Sd).length<=81;simp⟩⟩
 | some h=>
  unfold hfO at hO;split at hO
  ·rename_i hc;exact ⟨h,true,rfl,fM_hfS rs _ _ (hdN_sz n k hc) hO⟩
  ·cases hO
theorem rcs_of {rs:List Rc} (hz:z_RecS rs<=1048576):RcS rs:=by
 refine ⟨?_,fun y hy => ?_⟩
 ·unfold z_RecS at hz;omega
 ·have:=z_RecS_mem hy;omega
theorem w_isameSaid (a b:List Sd) (ha:a.length<=maxLen):g_isameSaid (a,b)=some (decide (a=b),()):=by
 show f_isameSaid BIG _=_;rw [e_isameSaid];by_cases hl:a.length=b.length
 ·rw [decide_eq_true (by omega),Bool.not_true,cond_false,eqLoop a b ha hl false]
  ·by_cases h:a=b<;>simp [h]
  ·intro self i x y hx hy;have hi:=(List.getElem?_eq_some_iff.1 hx).1;simp only [show ((i:Int)<(a.length:Int)) from by omega,decide_true,cond_true];rw [bnd_nat hi,hx,Option.bind_some,bnd_nat (by omega),hy,Option.bind_some,wr1 (by omega)];have hc:(decide (x.1=y.1)&&(decide (x.2.1=y.2.1)&&(decide (x.2.2.1=y.2.2.1)&&(decide (x.2.2.2.1=y.2.2.2.1)&&(decide (x.2.2.2.2.1=y.2.2.2.2.1)&&(decide (x.2.2.2.2.2=y.2.2.2.2.2)&&true))))))=decide (x=y):=by
    obtain ⟨a1,a2,a3,a4,a5,a6⟩:=x;obtain ⟨b1,b2,b3,b4,b5,b6⟩:=y;rw [Bool.eq_iff_iff];simp [Prod.mk.injEq]
   rw [hc];by_cases h1:x=y
   ·rw [decide_eq_true h1,if_pos h1];rfl
   ·rw [decide_eq_false h1,if_neg h1];rfl
  ·intro self;simp
 ·rw [decide_eq_false (by omega),Bool.not_false,cond_true,decide_eq_false (fun h=>hl (by rw [h]))]
theorem w_sl15SameSaid (a b:List Sd) (ha:a.length<=maxLen):g_sl15SameSaid (a,b)=some (decide (a=b),()):=by
 show f_sl15SameSaid BIG _=_;rw [e_sl15SameSaid];by_cases hl:a.length=b.length
 ·rw [decide_eq_true (by omega),Bool.not_true,cond_false,eqLoop a b ha hl false]
  ·by_cases h:a=b<;>simp [h]
  ·intro self i x y hx hy;have hi:=(List.getElem?_eq_some_iff.1 hx).1;simp only [show ((i:Int)<(a.length:Int)) from by omega,decide_true,cond_true];rw [bnd_nat hi,hx,Option.bind_some,bnd_nat (by omega),hy,Option.bind_some,wr1 (by omega)];have hc:(decide (x.1=y.1)&&(decide (x.2.1=y.2.1)&&(decide (x.2.2.1=y.2.2.1)&&(decide (x.2.2.2.1=y.2.2.2.1)&&(decide (x.2.2.2.2.1=y.2.2.2.2.1)&&(decide (x.2.2.2.2.2=y.2.2.2.2.2)&&true))))))=decide (x=y):=by
    obtain ⟨a1,a2,a3,a4,a5,a6⟩:=x;obtain ⟨b1,b2,b3,b4,b5,b6⟩:=y;rw [Bool.eq_iff_iff];simp [Prod.mk.injEq]
   rw [hc];by_cases h1:x=y
   ·rw [decide_eq_true h1,if_pos h1];rfl
   ·rw [decide_eq_false h1,if_neg h1];rfl
  ·intro self;simp
 ·rw [decide_eq_false (by omega),Bool.not_false,cond_true,decide_eq_false (fun h=>hl (by rw [h]))]
section
variable (n x0:Int) (x1:List Int) (x2:List Ed) (x3:List (List Int)) (x4:List Int) (x5 x6 x7 x8 x9 x10 x11:Int) (x12:List Ed) (x13:Int) (x14:List Sd) (ss:List ShT) (ds:List (List Fl)) (us:List Bool) (ps:List Pk) (cs:List Cl7) (rs:List Rc) (hn:n<=9223372036854775807) (hz:RcS rs) (h14:x14.length<=1048576) (hs:ss.length<=1048576) (hy:∀y,y∈ss->y.2.2.1.length<=1048576) (ht:(ss.map ow).flatten.length<=1048576) (hc:cs.length<=1048576) (hu:us.length<=1048576)
include hn hz h14 hs hy ht hc hu
theorem w_Sound:∃b,g_iSound (n,x0,x1,x2,x3,x4,x5,x6,x7,x8,x9,x10,x11,x12,x13,x14,ss,ds,us,ps,cs,rs)=some (b,())/\g_sSound (n,x0,x1,x2,x3,x4,x5,x6,x7,x8,x9,x10,x11,x12,x13,x14,ss,ds,us,ps,cs,rs)=some (b,()):=by
 have hm:maxLen=9223372036854775807:=by decide
 have wi:=w_iHeadFrom n (ss.length:Int) rs hz;have ws:=w_sHeadFrom n (ss.length:Int) rs hz;obtain ⟨⟨y0,y1,y2,y3,y4,y5,y6,y7,y8,y9,y10,y11,y12,y13,y14⟩,b,e,hS⟩:=hfF_sz n (ss.length:Int) rs;rw [e] at wi ws;obtain ⟨s1,s2,⟨s3,s3'⟩,s4,s5,s6⟩:=hS;simp only at s1 s2 s3 s3' s4 s5 s6;have oi:=w_iOnce n y0 y1 y2 y3 y4 y5 y6 y7 y8 y9 y10 y11 y12 y13 y14 ss ds us ps cs rs (by omega) hs hy (by omega);have os:=w_sOnce n y0 y1 y2 y3 y4 y5 y6 y7 y8 y9 y10 y11 y12 y13 y14 ss ds us ps cs rs (by omega) hs hy (by omega);have ai:=w_iAgrees n y0 y1 y2 y3 y4 y5 y6 y7 y8 y9 y10 y11 y12 y13 y14 ss ds us ps cs rs hn (by omega) (by omega) hs hy (by omega);have asg:=w_sAgrees n y0 y1 y2 y3 y4 y5 y6 y7 y8 y9 y10 y11 y12 y13 y14 ss ds us ps cs rs hn (by omega) (by omega) hs hy (by omega);have lp:∀{F:(Int->Option (Unit ⊕ Bool))->Int->Option (Unit ⊕ Bool)},(∀self (i:Nat) y,us[i]?=some y->F self (i:Int)=if (!y) then some (.inr true) else self ((i+1:Nat):Int))->(∀self,F self (us.length:Int)=some (.inl ()))->loopT BIG F 0=some (if us.any (fun y=>!y)=true then .inr true else .inl ()):=fun hF hE=>hiLoop us (by omega) (fun y=>!y) true hF hE
 have w1:IntKind.wrap .i64 ((ss.length:Int)+1)=(ss.length:Int)+1:=wr (by omega) (by omega);have qs:g_sl15Quiet (n,y0,y1,y2,y3,y4,y5,y6,y7,y8,y9,y10,y11,y12,y13,y14,ss,ds,us,ps,cs,rs)=some (if us.any (fun y=>!y)=true then true else (onB y6 y1 y2 ss&&agB n y2 y3 y9 y14 ss),()):=by
  show f_sl15Quiet BIG _=_;rw [e_sl15Quiet];dsimp only;rw [lp (fun self i y hy'=>by
   have hi:=(List.getElem?_eq_some_iff.1 hy').1
   simp only [show ((i:Int)<(us.length:Int)) from by omega,decide_true,cond_true]
   rw [bnd_nat hi,hy',Option.bind_some,wr1 (by omega)]
   cases y<;>rfl) (fun self=>by simp)]
  by_cases hA:us.any (fun y=>!y)=true
  ·rw [if_pos hA,if_pos hA];rfl
  ·rw [if_neg hA,if_neg hA];simp only [Option.bind_some];rw [os,Option.bind_some];cases hB:onB y6 y1 y2 ss with
   | false=>rfl
   | true=>
    simp only [cond_true];rw [asg];rfl
 have hi:g_iSound (n,x0,x1,x2,x3,x4,x5,x6,x7,x8,x9,x10,x11,x12,x13,x14,ss,ds,us,ps,cs,rs)=f_iSound BIG (n,x0,x1,x2,x3,x4,x5,x6,x7,x8,x9,x10,x11,x12,x13,x14,ss,ds,us,ps,cs,rs):=rfl;have hs':g_sSound (n,x0,x1,x2,x3,x4,x5,x6,x7,x8,x9,x10,x11,x12,x13,x14,ss,ds,us,ps,cs,rs)=f_sSound BIG (n,x0,x1,x2,x3,x4,x5,x6,x7,x8,x9,x10,x11,x12,x13,x14,ss,ds,us,ps,cs,rs):=rfl;have hh:g_sl15Head (n,x0,x1,x2,x3,x4,x5,x6,x7,x8,x9,x10,x11,x12,x13,x14,ss,ds,us,ps,cs,rs)=some (fl (y0,y1,y2,y3,y4,y5,y6,y7,y8,y9,y10,y11,y12,y13,y14) b,()):=by
  show f_sl15Head BIG _=_;rw [e_sl15Head];dsimp only;rw [ws];rfl
 rw [hi,hs',e_iSound,e_sSound];dsimp only;rw [wi,Option.bind_some,hh,Option.bind_some];simp only [fl];cases b with
 | false=>exact ⟨false,rfl,rfl⟩
 | true=>
  simp only [Bool.not_true,cond_false,w1];by_cases hlen:(us.length:Int)=(ss.length:Int)+1;case neg=>
   rw [decide_eq_false hlen];exact ⟨false,rfl,rfl⟩
  rw [decide_eq_true hlen];simp only [Bool.not_true,cond_false];have hg:us[Int.toNat 0]?=some (us.getD 0 false):=by
   have h0:0<us.length:=by omega
   rw [show Int.toNat 0=0 from rfl,List.getD_eq_getElem?_getD,List.getElem?_eq_getElem h0];rfl
  have hb:∀{B:Type} (F:Nat->Option B),bnd us.length 0 F=F (Int.toNat 0):=fun F=>bnd_ok (by omega) (by omega)
  simp only [hb,hg,Option.bind_some];generalize hu0:us.getD 0 false=u0;have hsame:∃z:Bool,(bif u0 then Option.bind (g_isameSaid (y14,x14)) fun r3=>some !r3.1 else some false:Option Bool)=some z/\(bif u0 then Option.bind (g_sl15SameSaid (y14,x14)) fun r3=>some !r3.1 else some false:Option Bool)=some z:=by
   cases u0 with
   | false=>exact ⟨false,rfl,rfl⟩
   | true=>
    simp only [cond_true];rw [w_isameSaid y14 x14 (by omega),w_sl15SameSaid y14 x14 (by omega)];exact ⟨_,rfl,rfl⟩
  obtain ⟨z,z1,z2⟩:=hsame;rw [z1,z2,Option.bind_some,Option.bind_some];cases z with
  | true=>exact ⟨false,rfl,rfl⟩
  | false=>
   simp only [cond_false];rw [h_iFollows n y14 hn (by omega),h_sFollows n y14 (by omega),Option.bind_some,Option.bind_some];cases hfo:(fM (stFo n) [] y14).isSome with
   | false=>exact ⟨false,rfl,rfl⟩
   | true=>
    simp only [Bool.not_true,cond_false,cond_true];have ⟨t,hI,hJ⟩:∃t,g_iInTime (cs,y14)=some (t,())/\g_sInTime (cs,y14)=some (t,()):=⟨_,h_iInTime cs y14 hc (by omega),h_sInTime cs y14 hc (by omega)⟩
    rw [hI,hJ,Option.bind_some,Option.bind_some];cases t with
    | false=>exact ⟨false,rfl,rfl⟩
    | true=>
     simp only [Bool.not_true,cond_false,cond_true,Option.bind_some];rw [qs,Option.bind_some,Option.bind_some];refine ⟨_,?_,rfl⟩;rw [lp (fun self i y hy'=>by
      have hi:=(List.getElem?_eq_some_iff.1 hy').1
      simp only [show ((i:Int)<(us.length:Int)) from by omega,decide_true,cond_true]
      rw [bnd_nat hi,hy',Option.bind_some,wr1 (by omega)]
      cases y<;>rfl) (fun self=>by simp)]
     by_cases hA:us.any (fun y=>!y)=true
     ·rw [if_pos hA,if_pos hA];rfl
     ·rw [if_neg hA,if_neg hA];simp only [Option.bind_some];rw [oi,Option.bind_some];cases hB:onB y6 y1 y2 ss with
      | false=>rfl
      | true=>
       simp only [cond_true];rw [ai];rfl
end
theorem law_lFnExactSound (n x0:Int) (x1:List Int) (x2:List Ed) (x3:List (List Int)) (x4:List Int) (x5 x6 x7 x8 x9 x10 x11:Int) (x12:List Ed) (x13:Int) (x14:List Sd) (ss:List ShT) (ds:List (List Fl)) (us:List Bool) (ps:List Pk) (cs:List Cl7) (rs:List Rc) (w0 : -9223372036854775808<=n/\n<=9223372036854775807) (q1:x1.length<=maxLen) (q2:x2.length<=maxLen) (q3:B_IntSS x3) (q4:x4.length<=maxLen) (q12:x12.length<=maxLen) (q14:x14.length<=maxLen) (qs:B_ShardS ss) (qd:B_DiskS ds) (qu:us.length<=maxLen) (qp:B_PacketS ps) (qc:cs.length<=maxLen) (qr:B_RecS rs) :
  g_lFnExactSound (n,x0,x1,x2,x3,x4,x5,x6,x7,x8,x9,x10,x11,x12,x13,x14,ss,ds,us,ps,cs,rs)=some (true,()):=by
 show f_lFnExactSound BIG _=_;rw [e_lFnExactSound];have hs:=sz_World n x0 x1 x2 x3 x4 x5 x6 x7 x8 x9 x10 x11 x12 x13 x14 ss ds us ps cs rs 1048576 (by omega) (by omega) q1 q2 q3 q4 q12 q14 qs qd qu qp qc qr;by_cases hz:(((x1.length+x2.length+z_IntSS x3+x4.length+x12.length+x14.length)+z_ShardS ss+z_DiskS ds+us.length+z_PacketS ps+cs.length+z_RecS rs:Nat):Int)<=1048576;case neg=>
  rw [if_neg hz] at hs;rw [hs];rfl
 rw [if_pos hz] at hs;have hf:=flat_len ss;obtain ⟨b,wi,ws⟩:=w_Sound n x0 x1 x2 x3 x4 x5 x6 x7 x8 x9 x10 x11 x12 x13 x14 ss ds us ps cs rs w0.2 (rcs_of (by omega)) (by omega) (by omega) (fun y hy=>by have:=z_ShardS_mem hy;omega) (by omega) (by omega) (by omega);have ht:=to_World n x0 x1 x2 x3 x4 x5 x6 x7 x8 x9 x10 x11 x12 x13 x14 ss ds us ps cs rs (by omega);have he:=eq_World n x0 x1 x2 x3 x4 x5 x6 x7 x8 x9 x10 x11 x12 x13 x14 ss ds us ps cs rs (by omega);rw [hs,Option.bind_some];dsimp only;rw [decide_eq_false (by omega),cond_false];simp only [ht,Option.bind_some,ws,wi,beq_self_eq_true,Bool.not_true,cond_false,he]
end Go.Fw
