/- What the given functions come to. No conditions. -/
import Derived.Test.YtbdciplhpomakaaGreatM0
set_option linter.unusedVariables false
set_option linter.unusedSimpArgs false
set_option linter.unusedSectionVars false
namespace Go.Fw
theorem arZ {n:Int} {own:List Int} {cuts:List Ed} {L:List (List Int)} {nums:List Int} {said:List Sd} {t:Bool} (h:(aP n 1 12=true/\aP (L.length:Int) 1 3=true/\nums.length=L.length)/\oP3 n L nums/\((own.length:Int)=n/\jr n cuts=true)/\oP1 L.length own/\oP2 own cuts/\(LB said/\said.length<=80)/\t=true):zg n own cuts L nums said t=true:=by
 unfold zg;exact ah h
theorem CP {n:Int} {own:List Int} {cuts:List Ed} {L:List (List Int)} {nums:List Int} {said:List Sd} {t:Bool} (h:(aP n 1 12=true/\aP (L.length:Int) 1 3=true/\nums.length=L.length)/\oP3 n L nums/\((own.length:Int)=n/\jr n cuts=true)/\oP1 L.length own/\oP2 own cuts/\(LB said/\said.length<=80)/\t=true->False):zg n own cuts L nums said t=false:=by
 unfold zg;exact au h
open Classical in
theorem Y_ (x0 : Int) (x1 : List Int) (x2 : List Ed) (x3 : List (List Int)) (x4 : List Int) (x5 x6 x7 x8 x9 x10 x11 : Int) (x12 : List Ed) (x13 : Int) (x14 : List Sd) (h1 : x1.length ≤ 1048576) (h2 : x2.length ≤ 1048576) (h3 : x3.length ≤ 1048576 ∧ ∀ y, y ∈ x3 → y.length ≤ 1048576) (h12 : x12.length ≤ 1048576) (h14 : x14.length ≤ 1048576) :
    Dk (x0, x1, x2, x3, x4, x5, x6, x7, x8, x9, x10, x11, x12, x13, x14) = some (zg x0 x1 x2 x3 x4 x14 (CO x0 x3.length x4 x14 x5 x6 x7 x8 x9 (x10, x11, x12, x13)), ()) := by
  have hm : maxLen = 9223372036854775807 := by decide
  show M3 BIG _ = _;rw [ajY];dsimp only;rw [wP x0 x2 h2];simp only [bT];cases ha : aP x0 1 12 with
  | false => rw [CP (fun h => by rw [ha] at h; cases h.1.1)]; rfl
  | true =>
    cases hb : aP (x3.length : Int) 1 3 with
    | false => rw [CP (fun h => by rw [hb] at h; cases h.1.2.1)]; rfl
    | true =>
      by_cases hc : x4.length = x3.length
      · rw [ah (show (x4.length : Int) = (x3.length : Int) from by omega)]
        simp only [bz, aj, aa]
        by_cases hn : (x1.length : Int) = x0
        · rw [ah hn]
          cases he : jr x0 x2 with
          | false => rw [CP (fun h => by rw [he] at h; cases h.2.2.1.2)]; rfl
          | true =>
            simp only [bz, aj, aa];by_cases hs : x14.length ≤ 80
            · rw [au (show ¬ (80 : Int) < (x14.length : Int) from by omega), aj]
              rw [l8 x3 (by omega) (p3 x0 x3 x4) false]
              · by_cases hp : oP3 x0 x3 x4
                · rw [if_pos hp]
                  simp only [aa]
                  have L1 := l8 x1 (by omega) (p1 x3.length x1) false (F := fun (self16 : Int → Option (Unit ⊕ Bool)) (x15 : Int) =>
                     bif decide (x15 < x0) then
                      bnd x1.length x15 fun n17 =>
                      Option.bind x1[n17]? fun y18 =>
                      bif !aP y18 (1 : Int) (x3.length : Int) then
                       some (Sum.inr false)
                      else self16 (IntKind.wrap .i64 (x15 + (1 : Int)))
                     else some (Sum.inl ())) (by
                    intro self i y hy
                    have hi := (aY hy).1
                    simp only [show ((i : Int) < x0) from by omega, decide_true, ai]
                    rw [aK hi, hy, aa, bX (by omega)]
                    unfold p1
                    rw [gD hy]
                    cases aP y 1 (x3.length : Int) <;> rfl) (by
                    intro self
                    simp [hn])
                  rw [L1]
                  by_cases hp1 : oP1 x3.length x1
                  · rw [if_pos hp1]
                    simp only [aa]
                    rw [l8 x2 (by omega) (p2 x1 x2) false]
                    · by_cases hp2 : oP2 x1 x2
                      · rw [if_pos hp2]
                        simp only [aa]
                        rw [l8 x14 (by omega) (p4 x14) false]
                        · by_cases hp4 : LB x14
                          · rw [if_pos hp4]
                            have ha0 := ha
                            have hb0 := hb
                            rw [aC] at ha hb
                            simp only [aa]
                            rw [acO _ _ _ _ _ _ _ _ _ _ _ _ _ _ _ ha hc (by omega) h12 h14]
                            simp only [aa]
                            cases q3 : CO x0 x3.length x4 x14 x5 x6 x7 x8 x9 (x10, x11, x12, x13) with
                            | false => rw [CP (fun h => by cases h.2.2.2.2.2.2)]
                            | true => rw [arZ ⟨⟨ha0, hb0, hc⟩, hp, ⟨hn, he⟩, hp1, hp2, ⟨hp4, hs⟩, rfl⟩]
                          · rw [if_neg hp4, CP (fun h => hp4 h.2.2.2.2.2.1.1)]; rfl
                        · intro self i y hy
                          have hi := (aY hy).1
                          simp only [show ((i : Int) < (x14.length : Int)) from by omega, decide_true, ai]
                          simp only [aK hi, hy, aa, bX (show i < maxLen from by omega), Kw _ _ _ _ _ _ _ _ _ _ _ _ _ _ _ _ h14]
                          unfold p4
                          rw [gD hy]
                          unfold p4c
                          cases decide (y.1 = y.2.1) <;> cases aP y.2.2.2.2.2 1 3 <;> cases decide (sA x14 y.1 = (i : Int)) <;> rfl
                        · intro self; simp
                      · rw [if_neg hp2, CP (fun h => hp2 h.2.2.2.2.1)]; rfl
                    · intro self i y hy
                      have hi := (aY hy).1
                      simp only [show ((i : Int) < (x2.length : Int)) from by omega, decide_true, ai]
                      simp only [aK hi, hy, aa]
                      exact aoI x1 x2 x0 he hn (B := Unit) self i y hy h2
                    · intro self; simp
                  · rw [if_neg hp1, CP (fun h => hp1 h.2.2.2.1)]; rfl
                · rw [if_neg hp, CP (fun h => hp h.2.1)]; rfl
              · intro self i y hy
                have hi := (aY hy).1
                have hz : x4[i]? = some (x4[i]'(by omega)) := aR (by omega)
                simp only [show ((i : Int) < (x3.length : Int)) from by omega, decide_true, ai]
                simp only [aK hi, hy, aa, OL x0 y (h3.2 y (List.mem_of_getElem? hy)), aK (show i < x4.length from by omega), hz, bX (show i < maxLen from by omega)]
                unfold p3
                rw [gD hy, gD hz]
                cases qC x0 y <;> cases aP (x4[i]'(by omega)) 0 99991 <;> rfl
              · intro self; simp
            · rw [ah (show (80 : Int) < (x14.length : Int) from by omega), CP (fun h => hs h.2.2.2.2.2.1.2)]; rfl
        · rw [au hn, CP (fun h => hn h.2.2.1.1)]; rfl
      · rw [au (show ¬ (x4.length : Int) = (x3.length : Int) from by omega), CP (fun h => hc h.1.2.2)]; rfl
theorem VZ {S α:Type} (p:α->Bool) (f:S->α->S):∀(l:List α) (s:S),fM (fun s y=>if p y=true then some (f s y) else none) s l=if l.all p=true then some (l.foldl f s) else none
 | [],s=>by simp [fM]
 | y::l,s=>by
  rw [fM];cases hp:p y with
  | false=>simp [hp]
  | true=>simp only [if_true,aa,VZ p f l,List.all_cons,hp,Bool.true_and,List.foldl_cons]
def DL (l:List Int):List Ed:=l.zipIdx.map fun p=>(p.1,(p.2:Int))
def vP (l:List Int):Bool:=l.zipIdx.all fun p=>aP p.1 0 (p.2:Int)
def pL (n:Int) (l:List Int):Bool:=decide ((l.length:Int)=n)&&vP l
def wlB (n:Int) (L:List (List Int)) (cuts:List Ed):Bool:=aP n 1 12&&(decide (L.length<=3)&&(L.all (pL n)&&cuts.all (cZ n)))
def LC (n:Int) (L:List (List Int)) (cuts:List Ed):List Int × Bool:=if wlB n L cuts=true then (labs n.toNat (L.flatMap DL++cuts),true) else ([],false)
theorem OZ {l:List Int} {i:Nat} {p:Int × Nat} (h:l.zipIdx[i]?=some p):l[i]?=some p.1/\p.2=i:=by
 rw [List.getElem?_zipIdx] at h;cases hl:l[i]? with
 | none=>rw [hl] at h;simp at h
 | some x=>rw [hl] at h;simp at h;subst h;simp
theorem aq5 {n:Nat} {l:List Int} (hl:l.length=n) (h:vP l=true):kR n (DL l):=by
 intro e he;obtain ⟨p,hp,rfl⟩:=List.mem_map.1 he;obtain ⟨i,hi,rfl⟩:=List.getElem_of_mem hp;have h1:=List.all_eq_true.1 h _ hp;obtain ⟨h2,h3⟩:=OZ (aR hi);rw [aC] at h1;rw [List.length_zipIdx] at hi;refine ⟨h1.1,?_,?_,?_⟩<;>(simp only;omega)
def O0 (l:List Int):List Ed:=(DL l).filter fun e=>decide (e.1<e.2)
theorem Ky:∀(E:List Ed) (s:List Int),(∀e,e∈E->e.1<=e.2)->(E.filter fun e=>decide (e.1<e.2)).foldl unE s=E.foldl unE s
 | [],s,_=>rfl
 | e::E,s,h=>by
  rw [List.filter_cons];by_cases he:e.1<e.2
  ·rw [ah he,if_pos rfl,List.foldl_cons,List.foldl_cons];exact Ky E _ fun e' he'=>h e' (List.mem_cons_of_mem _ he')
  ·have h1:=h e (List.mem_cons_self ..);have h2:e.1=e.2:=by omega
   rw [au he,if_neg (by simp),List.foldl_cons,show unE s e=s from by unfold unE;rw [h2,ama]];exact Ky E s fun e' he'=>h e' (List.mem_cons_of_mem _ he')
theorem aoJ {n:Nat} {L:List (List Int)} (cuts:List Ed) (h:L.all (pL n)=true):labs n (L.flatMap O0++cuts)=labs n (L.flatMap DL++cuts):=by
 unfold labs;rw [List.foldl_append,List.foldl_append];congr 1;have e1:L.flatMap O0=(L.flatMap DL).filter fun e=>decide (e.1<e.2):=by
  rw [List.filter_flatMap];rfl
 rw [e1,Ky];intro e he;obtain ⟨l,hl,hel⟩:=List.mem_flatMap.1 he;have h1:=List.all_eq_true.1 h l hl;simp only [pL,aG,decide_eq_true_eq] at h1;obtain ⟨p,hp,rfl⟩:=List.mem_map.1 hel;have h2:=List.all_eq_true.1 h1.2 p hp;rw [aC] at h2;exact h2.2
theorem aq6 {n:Nat} {L:List (List Int)} {cuts:List Ed} (h:L.all (pL n)=true) (hc:cuts.all (cZ n)=true):kR n (L.flatMap O0++cuts):=by
 intro e he;rcases List.mem_append.1 he with he|he
 ·obtain ⟨l,hl,hel⟩:=List.mem_flatMap.1 he;have h1:=List.all_eq_true.1 h l hl;simp only [pL,aG,decide_eq_true_eq] at h1;exact aq5 (by omega) h1.2 e (List.mem_filter.1 hel).1
 ·have:=eB (List.all_eq_true.1 hc e he);exact ⟨this.1,this.2.1,this.2.2.1,this.2.2.2.1⟩
theorem acP:∀(l:List (Int × Nat)) (s:List Ed),l.foldl (fun (s:List Ed) p=>if p.1<(p.2:Int) then s++[(p.1,(p.2:Int))] else s) s=s++((l.map fun p=>(p.1,(p.2:Int))).filter fun e=>decide (e.1<e.2))
 | [],s=>by simp
 | p::l,s=>by
  rw [List.foldl_cons,acP l,List.map_cons,List.filter_cons];by_cases h:p.1<(p.2:Int)
  ·simp [h]
  ·simp [h]
theorem Za {α β:Type} (f:α->List β):∀(L:List α) (s:List β),L.foldl (fun s l=>s++f l) s=s++L.flatMap f
 | [],s=>by simp
 | l::L,s=>by rw [List.foldl_cons,Za f L,List.flatMap_cons,List.append_assoc]
theorem XK (n:Int) (L:List (List Int)) (cuts:List Ed) (hL:L.length<=1048576) (hc:cuts.length<=1048576):vE (n,L,cuts)=some (if cuts.length<=1000 then LC n L cuts else ([],false),()):=by
 have hm:maxLen=9223372036854775807:=by decide
 show vD BIG _=_;rw [Xd,bT];unfold LC wlB;cases hn:aP n 1 12 with
 | false=>simp
 | true=>
  rw [aC] at hn;obtain ⟨k,rfl⟩:∃k:Nat,n=(k:Int):=⟨n.toNat,by omega⟩
  by_cases h3:L.length<=3;case neg=>rw [au h3];simp only [aa,bz,aj];rw [ah (by omega)];simp
  rw [ah h3];simp only [aa,bz,aj,Bool.true_and];rw [au (show ¬(3:Int)<(L.length:Int) from by omega),aj];by_cases h1000:cuts.length<=1000;case neg=>rw [ah (by omega),if_neg h1000];rfl
  rw [au (by omega),if_pos h1000];simp only [aa,aj];rw [SQ L (by omega) (fun i (s:List Ed)=>s.length<=12*i) (fun s l=>if pL k l=true then some (s++O0 l) else none) (([],false):List Int × Bool) (by simp) (fun i s y s' hy hs he=>by
   split at he
   ·rename_i hp
    cases he
    simp only [pL,aG,decide_eq_true_eq] at hp
    have h4:(O0 y).length<=y.length:=by
     unfold O0 DL
     refine Nat.le_trans (List.length_filter_le _ _) ?_
     simp
    rw [bq];omega
   ·cases he) (fun self s i y hy hs => ?_) (fun self s hs=>by simp)]
  ·rw [VZ];cases hall:L.all (pL k) with
   | false=>rfl
   | true=>
    simp only [if_true,aa,Za,Bool.true_and,List.nil_append];have hfl:(L.flatMap O0).length<=36:=by
     have:∀M:List (List Int),M.all (pL k)=true->(M.flatMap O0).length<=12*M.length:=by
      intro M;induction M with
      | nil=>intro _;simp
      | cons y M ih=>
       intro h;simp only [List.all_cons,aG] at h;have h5:=ih h.2;have hp:=h.1;simp only [pL,aG,decide_eq_true_eq] at hp;have h4:(O0 y).length<=y.length:=by
        unfold O0 DL;refine Nat.le_trans (List.length_filter_le _ _) ?_;simp
       rw [List.flatMap_cons,bq,aX];omega
     have:=this L hall;omega
    rw [SQ cuts (by omega) (fun i (s:List Ed)=>s.length<=36+i) (fun s e=>if cZ k e=true then some (s++[e]) else none) (([],false):List Int × Bool) (by omega) (fun i s y s' hy hs he=>by
     split at he
     ·cases he;simp;omega
     ·cases he) (fun self s i y hy hs => ?_) (fun self s hs=>by simp)]
    ·rw [VZ];cases hcall:cuts.all (cZ k) with
     | false=>rfl
     | true=>
      have hfold:∀(l:List Ed) (s:List Ed),l.foldl (fun s e=>s++[e]) s=s++l:=by
       intro l;induction l with
       | nil=>intro s;simp
       | cons e l ih=>intro s;rw [List.foldl_cons,ih];simp
      simp only [if_true,aa,dC,hfold];rw [CJ k _ (by omega) (aq6 hall hcall) (by rw [bq];omega),aa,aoJ cuts hall]
    ·have hi:=(aY hy).1;simp only [show ((i:Int)<(cuts.length:Int)) from by omega,decide_true,ai];rw [aK hi,hy,aa,Dz,bX (by omega)];cases he:cZ k y with
     | false=>rfl
     | true=>
      simp only [aa,bz,aj,if_true];rw [aK hi,hy,aa,ah (by simp only [aX,List.length_nil];omega)];rfl
  ·have hi:=(aY hy).1;simp only [show ((i:Int)<(L.length:Int)) from by omega,decide_true,ai];rw [aK hi,hy,aa,bX (by omega)];by_cases hlen:(y.length:Int)=(k:Int)
   case neg=>unfold pL;rw [au hlen];rfl
   rw [ah hlen,bz,aj];have hz:(y.zipIdx).length=y.length:=List.length_zipIdx;rw [SQ y.zipIdx (by omega) (fun j (t:List Ed)=>t.length<=12*i+j) (fun s p=>if aP p.1 0 (p.2:Int)=true then some (if p.1<(p.2:Int) then s++[(p.1,(p.2:Int))] else s) else none) (([],false):List Int × Bool) (by omega) (fun i s y s' hy hs he=>by
    split at he
    ·cases he
     split
     ·simp;omega
     ·omega
    ·cases he) (fun self s j p hp hs => ?_) (fun self s hs=>by simp only [hz,show ¬((y.length:Int)<(k:Int)) from by omega,decide_false,aj])]
   ·rw [VZ];have e1:pL k y=vP y:=by unfold pL;rw [ah hlen,Bool.true_and]
    rw [e1];unfold vP O0 DL;cases y.zipIdx.all fun p=>aP p.1 0 (p.2:Int) with
    | false=>rfl
    | true=>simp only [if_true,aa,acP]
   ·obtain ⟨hp1,hp2⟩:=OZ hp;have hj:=(aY hp1).1;obtain ⟨x,v⟩:=p;simp only at hp1 hp2;subst hp2;simp only [show ((v:Int)<(k:Int)) from by omega,decide_true,ai];rw [bX (by omega)];simp only [aK hi,hy,aa,aK hj,hp1,bT];cases hx:aP x 0 (v:Int) with
    | false=>rfl
    | true=>
     simp only [bz,aj,if_true];by_cases hxv:x<(v:Int)
     ·rw [ah hxv,ai,if_pos hxv,ah (by simp only [aX,List.length_nil];omega),ai];rfl
     ·rw [au hxv,aj,if_neg hxv];rfl
abbrev LD:=Int × List Int × List (Int × Int) × List (List Int) × List Int × Int × Int × Int × Int × Int × Int × Int × List (Int × Int) × Int × List (Int × Int × Int × Int × Int × Int) × Int
theorem Kz (x0:Int) (x1:List Int) (x2:List Ed) (x3:List (List Int)) (x4:List Int) (x5 x6 x7 x8 x9 x10 x11:Int) (x12:List Ed) (x13:Int) (x14:List Sd) (h1:x1.length<=1048576) (h2:x2.length<=1048576) (h3:x3.length<=1048576/\∀y,y∈x3->y.length<=1048576) (h4:x4.length<=1048576) (h12:x12.length<=1048576) (h14:x14.length<=1048576) :
  sD (x0,x1,x2,x3,x4,x5,x6,x7,x8,x9,x10,x11,x12,x13,x14)=some ((x0,x1,x2,x3,x4,x5,x6,x7,x8,x9,x10,x11,x12,x13,x14),()):=by
 have hm:maxLen=9223372036854775807:=by decide
 show HZ BIG _=_;rw [agX];dsimp only;have ho:jZ (x10,x11,x12,x13)=some ((x10,x11,x12,x13),()):=by
  show mO BIG _=_;rw [Dc,ah (by simp;omega)];rfl
 rw [ah (by simp;omega),ai,ah (by simp;omega),ai,ah (by simp;omega),ai,ah (by simp;omega),ai];rw [lI x3 (by omega) (fun i (s:List (List Int))=>s.length=i) (fun s y=>s++[y]) id rfl (fun i s y _ h=>by simp only [bq,aX,List.length_nil];omega) (fun self s i y hy hs => ?_) (fun self s _=>by simp)]
 ·rw [aa,ho,aa];have hf:∀(L s:List (List Int)),L.foldl (fun s y=>s++[y]) s=s++L:=by
   intro L;induction L with
   | nil=>intro s;simp
   | cons y L ih=>intro s;rw [List.foldl_cons,ih];simp
  rw [hf];simp
 ·have hi:=(aY hy).1;have hy3:=h3.2 y (List.mem_of_getElem? hy);simp only [show ((i:Int)<(x3.length:Int)) from by omega,decide_true,ai];rw [aK hi,hy,aa,ah (by simp;omega),ai,ah (by simp only [aX,List.length_nil];omega),ai,bX (by omega),List.nil_append]
def KA (x0:Int) (x1:List Int) (x2:List Ed) (x3:List (List Int)) (x4:List Int) (x14:List Sd) (i op a b v:Int):LD:=(x0,x1,x2,x3,x4,0,0,0,0,0,0,0,[],0,x14++[(i,i,op,a,b,v)],1)
def amj (x0:Int) (x1:List Int) (x2:List Ed) (x3:List (List Int)) (x4:List Int) (x14:List Sd) (i op a b sh o:Int) (es:List Ed) (v:Int):LD:=(x0,x1,x2,x3,x4,i,op,a,b,sh,x4.getD (sh-1).toNat 0+1,o,es,v,x14,2)
def tkE (x0:Int) (x1:List Int) (x2:List Ed) (x3:List (List Int)) (x4:List Int) (x14:List Sd) (i op a b:Int):LD:=
 if x1.getD (eG a b).1.toNat 0=x1.getD (eG a b).2.toNat 0 then amj x0 x1 x2 x3 x4 x14 i op a b (x1.getD (eG a b).1.toNat 0) (if op=2 then 2 else 1) [eG a b] 0
 else if (decide (eG a b∈x2) == decide (op=1))=true then KA x0 x1 x2 x3 x4 x14 i op a b 2
 else KA x0 x1 (if eG a b∈x2 then del x2 (eG a b) else ins x2 (eG a b)) x3 x4 x14 i op a b 1
def tkM (x0:Int) (x1:List Int) (x2:List Ed) (x3:List (List Int)) (x4:List Int) (x14:List Sd) (i op a b:Int):LD:=
 if zf x0 x3.length op a b=false then KA x0 x1 x2 x3 x4 x14 i op a b 3
 else if op=3 then KA x0 x1 x2 x3 x4 x14 i op a b (if (LC x0 x3 x2).1.getD a.toNat 0=(LC x0 x3 x2).1.getD b.toNat 0 then 1 else 2)
 else if op=4 then (if x1.getD a.toNat 0=b then KA x0 x1 x2 x3 x4 x14 i op a b 2 else amj x0 x1 x2 x3 x4 x14 i op a b (x1.getD a.toNat 0) 3 [] a)
 else tkE x0 x1 x2 x3 x4 x14 i op a b
structure HdF (x0:Int) (x1:List Int) (x2:List Ed) (x3:List (List Int)) (x4:List Int) (x14:List Sd):Prop where
 n:1<=x0/\x0<=12
 k:1<=x3.length/\x3.length<=3
 nums:x4.length=x3.length
 own:(x1.length:Int)=x0
 cuts:jr x0 x2=true
 said:x14.length<=80
 o1:∀i,i<x1.length->1<=x1.getD i 0/\x1.getD i 0<=x3.length
 o3:∀i,i<x3.length->qC x0 (x3.getD i [])=true/\0<=x4.getD i 0/\x4.getD i 0<=99991
theorem aqo {x0:Int} {x1:List Int} {x2:List Ed} {x3:List (List Int)} {x4:List Int} {x14:List Sd} {t:Bool} (h:zg x0 x1 x2 x3 x4 x14 t=true):HdF x0 x1 x2 x3 x4 x14/\t=true:=by
 unfold zg at h;have h':=of_decide_eq_true h;obtain ⟨⟨a1,a2,a3⟩,a4,⟨a5,a6⟩,a7,a8,⟨a9,a10⟩,a11⟩:=h';rw [aC] at a1 a2;refine ⟨⟨a1,by omega,a3,a5,a6,a10,fun i hi => ?_,fun i hi => ?_⟩,a11⟩
 ·have:=a7 i hi;unfold p1 at this;rw [aC] at this;exact this
 ·have:=a4 i hi;unfold p3 at this;rw [aG,aC] at this;exact this
theorem aq7 {n:Int} {l:List Int} (h:qC n l=true):pL n l=true:=by
 unfold qC at h;split at h;case isFalse=>cases h
 case isTrue hn=>
 split at h;case isFalse=>cases h
 case isTrue hp=>
 unfold pL;rw [ah hn,Bool.true_and];unfold vP;rw [List.all_eq_true];intro p hpm;obtain ⟨i,hi,rfl⟩:=List.getElem_of_mem hpm;obtain ⟨h1,h2⟩:=OZ (aR hi);rw [List.length_zipIdx] at hi;have h3:=hp i hi;unfold Lt at h3;rw [h1] at h3;simp only [aG] at h3;rw [h2];exact h3.1
theorem HdF.wl {x0:Int} {x1:List Int} {x2:List Ed} {x3:List (List Int)} {x4:List Int} {x14:List Sd} (h:HdF x0 x1 x2 x3 x4 x14):wlB x0 x3 x2=true:=by
 unfold wlB;rw [aC.2 h.n,ah h.k.2,Bool.true_and,Bool.true_and,aG,List.all_eq_true,List.all_eq_true];refine ⟨fun l hl => ?_,(jL h.cuts).1⟩;obtain ⟨i,hi,rfl⟩:=List.getElem_of_mem hl;have:=(h.o3 i hi).1;rw [gD (aR hi)] at this;exact aq7 this
theorem HdF.wl_len {x0:Int} {x1:List Int} {x2:List Ed} {x3:List (List Int)} {x4:List Int} {x14:List Sd} (h:HdF x0 x1 x2 x3 x4 x14):((LC x0 x3 x2).1.length:Int)=x0:=by
 unfold LC;rw [if_pos h.wl];have:=h.n;simp only [dD];omega
section
variable {x0:Int} {x1:List Int} {x2:List Ed} {x3:List (List Int)} {x4:List Int} {x14:List Sd}
theorem jw (x5 x6 x7 x8 x9 x10 x11:Int) (x12:List Ed) (x13:Int) (i op a b v:Int) (h:x14.length<=1048576):lg ((x0,x1,x2,x3,x4,x5,x6,x7,x8,x9,x10,x11,x12,x13,x14),(i,op,a,b),v)=some ((),(x0,x1,x2,x3,x4,0,0,0,0,0,0,0,[],0,x14++[(i,i,op,a,b,v)])):=by
 show M7 BIG _=_;rw [aj0];dsimp only;rw [ah (by simp only [aX,List.length_nil];omega),ai]
theorem HdF.num (h:HdF x0 x1 x2 x3 x4 x14) {sh:Int} (h1:1<=sh) (h2:sh<=x3.length):IntKind.wrap .i64 (sh-1)=sh-1/\0<=sh-1/\sh-1<x4.length/\x4[(sh-1).toNat]?=some (x4.getD (sh-1).toNat 0)/\IntKind.wrap .i64 (x4.getD (sh-1).toNat 0+1)=x4.getD (sh-1).toNat 0+1:=by
 have hk:=h.k;have hn:=h.nums;have h3:=h.o3 (sh-1).toNat (by omega);exact ⟨wr (by omega) (by omega),by omega,by omega,getD_at (by omega),wr (by omega) (by omega)⟩
theorem V3 (h:HdF x0 x1 x2 x3 x4 x14) (x5 x6 x7 x8 x9 x10 x11:Int) (x12:List Ed) (x13:Int) (i op a b sh q o:Int) (es:List Ed) (v:Int) (h1:1<=sh) (h2:sh<=x3.length):zx ((x0,x1,x2,x3,x4,x5,x6,x7,x8,x9,x10,x11,x12,x13,x14),(i,op,a,b),sh,(q,o,es,v))=some (2,(x0,x1,x2,x3,x4,i,op,a,b,sh,x4.getD (sh-1).toNat 0+1,o,es,v,x14)):=by
 obtain ⟨g1,g2,g3,g4,g5⟩:=h.num h1 h2;show Ik BIG _=_;rw [ag5];dsimp only;rw [g1,cO g2 g3,g4,aa,g5]
theorem HdF.at (h:HdF x0 x1 x2 x3 x4 x14) {v:Int} (h1:0<=v) (h2:v<=x0-1):v<x1.length/\x1[v.toNat]?=some (x1.getD v.toNat 0)/\1<=x1.getD v.toNat 0/\x1.getD v.toNat 0<=x3.length:=by
 have ho:=h.own;have:=h.o1 v.toNat (by omega);exact ⟨by omega,getD_at (by omega),this.1,this.2⟩
theorem aqp {a b n:Int} (ha:0<=a/\a<=n) (hb:0<=b/\b<=n):(0<=(eG a b).1/\(eG a b).1<=n)/\(0<=(eG a b).2/\(eG a b).2<=n):=by
 unfold eG;split<;>exact ⟨by simpa,by simpa⟩
def frt:LD->Int × Hd:=fun h=>(h.2.2.2.2.2.2.2.2.2.2.2.2.2.2.2,(h.1,h.2.1,h.2.2.1,h.2.2.2.1,h.2.2.2.2.1,h.2.2.2.2.2.1,h.2.2.2.2.2.2.1,h.2.2.2.2.2.2.2.1,h.2.2.2.2.2.2.2.2.1,h.2.2.2.2.2.2.2.2.2.1,h.2.2.2.2.2.2.2.2.2.2.1,h.2.2.2.2.2.2.2.2.2.2.2.1,h.2.2.2.2.2.2.2.2.2.2.2.2.1,h.2.2.2.2.2.2.2.2.2.2.2.2.2.1,h.2.2.2.2.2.2.2.2.2.2.2.2.2.2.1))
theorem acR (h:HdF x0 x1 x2 x3 x4 x14) (i op a b:Int) (hop:op=1\/op=2) (ha:0<=a/\a<=x0-1) (hb:0<=b/\b<=x0-1):Bh ((x0,x1,x2,x3,x4,0,0,0,0,0,0,0,[],0,x14),(i,op,a,b))=some (frt (tkE x0 x1 x2 x3 x4 x14 i op a b)):=by
 have hm:maxLen=9223372036854775807:=by decide
 have hcl:=dF h.cuts;have hsd:=h.said;obtain ⟨e1,e2⟩:=aqp ha hb;obtain ⟨g1,g2,g3,g4⟩:=h.at e1.1 e1.2;obtain ⟨k1,k2,k3,k4⟩:=h.at e2.1 e2.2;show Bg BIG _=_;rw [abT];dsimp only;rw [aii,aa];dsimp only;unfold tkE;generalize eG a b=e at *
 have hx:(bif decide (op=(2:Int)) then some (2:Int) else some (1:Int))=some (if op=2 then 2 else 1):=by
  rcases hop with rfl|rfl<;>rfl
 rw [hx,aa];simp only [cO e1.1 g1,g2,aa,cO e2.1 k1,k2];generalize hp:x1.getD e.1.toNat 0=p at *
 generalize hq:x1.getD e.2.toNat 0=q at *
 by_cases hpq:p=q
 ·subst hpq;simp only [decide_true,ai,if_true];rw [V3 h _ _ _ _ _ _ _ _ _ _ _ _ _ _ _ _ _ _ g3 g4];rfl
 ·simp only [au hpq,aj,if_neg hpq];rw [xz _ _ (by omega),aa];cases hc:(decide (e∈x2) == decide (op=1)) with
  | true=>
   simp only [ai,if_true];rw [jw _ _ _ _ _ _ _ _ _ _ _ _ _ _ (by omega)];rfl
  | false=>
   simp only [aj,Bool.false_eq_true,if_false];by_cases hin:e∈x2
   ·simp only [ah hin,ai,if_pos hin];rw [Lv _ _ (by omega),aa,aa,jw _ _ _ _ _ _ _ _ _ _ _ _ _ _ (by omega)];rfl
   ·simp only [au hin,aj,if_neg hin];rw [xA _ _ (by omega),aa,aa,jw _ _ _ _ _ _ _ _ _ _ _ _ _ _ (by omega)];rfl
theorem anH {n:Int} {k:Nat} {op a b:Int} (h:zf n k op a b=true):(1<=op/\op<=4)/\(0<=a/\a<=n-1)/\(op=4->1<=b/\b<=k)/\(op≠4->0<=b/\b<=n-1):=by
 unfold zf at h;simp only [aG,aC] at h;refine ⟨h.1,h.2.1,fun h4 => ?_,fun h4 => ?_⟩
 ·have:=h.2.2;rw [ah h4,ai,aC] at this;exact this
 ·have:=h.2.2;rw [au h4,aj,aG,aC] at this;exact this.1
end
noncomputable def O1 (x0:Int) (x1:List Int) (x2:List Ed) (x3:List (List Int)) (x4:List Int) (x5 x6 x7 x8 x9 x10 x11:Int) (x12:List Ed) (x13:Int) (x14:List Sd) (i:Int):Bool:=
 zg x0 x1 x2 x3 x4 x14 (CO x0 x3.length x4 x14 x5 x6 x7 x8 x9 (x10,x11,x12,x13))&&(aP i 1 100000&&(!decide (0<=sA x14 i)&&(decide (x9=0) && !decide ((80:Int)<=(x14.length:Int)))))
noncomputable def tkR (x0:Int) (x1:List Int) (x2:List Ed) (x3:List (List Int)) (x4:List Int) (x5 x6 x7 x8 x9 x10 x11:Int) (x12:List Ed) (x13:Int) (x14:List Sd) (i op a b:Int):LD:=
 if O1 x0 x1 x2 x3 x4 x5 x6 x7 x8 x9 x10 x11 x12 x13 x14 i=true then tkM x0 x1 x2 x3 x4 x14 i op a b else (x0,x1,x2,x3,x4,x5,x6,x7,x8,x9,x10,x11,x12,x13,x14,0)
theorem afO {x0:Int} {x1:List Int} {x2:List Ed} {x3:List (List Int)} {x4:List Int} {x5 x6 x7 x8 x9 x10 x11:Int} {x12:List Ed} {x13:Int} {x14:List Sd} {i:Int} (h:O1 x0 x1 x2 x3 x4 x5 x6 x7 x8 x9 x10 x11 x12 x13 x14 i=true) :
  HdF x0 x1 x2 x3 x4 x14/\x5=0/\x6=0/\x7=0/\x8=0/\x9=0/\x10=0/\x11=0/\x12=[]/\x13=0:=by
 unfold O1 at h;simp only [aG,decide_eq_true_eq] at h;obtain ⟨h1,h2,h3,h4,h5⟩:=h;obtain ⟨hF,ht⟩:=aqo h1;subst h4;unfold CO at ht;rw [Bool.or_eq_true] at ht;rcases ht with ht|ht
 ·unfold tB CL xH at ht;simp only [aG,decide_eq_true_eq] at ht;obtain ⟨⟨b1,b2,b3,b4⟩,_,c1,c2,c3,c4⟩:=ht;exact ⟨hF,b1,b2,b3,b4,rfl,c1,c2,List.length_eq_zero_iff.1 c3,c4⟩
 ·simp only [aG,aC] at ht;omega
section
variable (x0:Int) (x1:List Int) (x2:List Ed) (x3:List (List Int)) (x4:List Int) (x5 x6 x7 x8 x9 x10 x11:Int) (x12:List Ed) (x13:Int) (x14:List Sd) (i op a b:Int) (h1:x1.length<=1048576) (h2:x2.length<=1048576) (h3:x3.length<=1048576/\∀y,y∈x3->y.length<=1048576) (h4:x4.length<=1048576) (h12:x12.length<=1048576) (h14:x14.length<=1048576)
include h1 h2 h3 h4 h12 h14
theorem aoK:PT ((x0,x1,x2,x3,x4,x5,x6,x7,x8,x9,x10,x11,x12,x13,x14),(i,op,a,b))=some (tkR x0 x1 x2 x3 x4 x5 x6 x7 x8 x9 x10 x11 x12 x13 x14 i op a b,()):=by
 have hm:maxLen=9223372036854775807:=by decide
 show Xg BIG _=_;rw [aow,Kz x0 x1 x2 x3 x4 x5 x6 x7 x8 x9 x10 x11 x12 x13 x14 h1 h2 h3 h4 h12 h14,aa];dsimp only;rw [Y_ x0 x1 x2 x3 x4 x5 x6 x7 x8 x9 x10 x11 x12 x13 x14 h1 h2 h3 h12 h14,bT,Kw x0 x1 x2 x3 x4 x5 x6 x7 x8 x9 x10 x11 x12 x13 x14 i h14,XG];have hx:(Option.bind (some (zg x0 x1 x2 x3 x4 x14 (CO x0 x3.length x4 x14 x5 x6 x7 x8 x9 (x10,x11,x12,x13)),())) fun r1:Bool × Unit=>
   bif !r1.1 then some true else Option.bind (some (aP i 1 100000,())) fun r2:Bool × Unit=>bif !r2.1 then some true else Option.bind (some (sA x14 i,())) fun r3:Int × Unit=>bif decide ((0:Int)<=r3.1) then some true else Option.bind (some (!decide (x9=0),())) fun r4:Bool × Unit=>bif r4.1 then some true else some (decide ((80:Int)<=(x14.length:Int))))=some (!O1 x0 x1 x2 x3 x4 x5 x6 x7 x8 x9 x10 x11 x12 x13 x14 i):=by
  unfold O1;simp only [aa];cases zg x0 x1 x2 x3 x4 x14 (CO x0 x3.length x4 x14 x5 x6 x7 x8 x9 (x10,x11,x12,x13))<;>cases aP i 1 100000<;>cases decide ((0:Int)<=sA x14 i)<;>cases decide (x9=0)<;>cases decide ((80:Int)<=(x14.length:Int))<;>rfl
 refine (congrArg (fun o=>Option.bind o _) hx).trans ?_;unfold tkR;cases hok:O1 x0 x1 x2 x3 x4 x5 x6 x7 x8 x9 x10 x11 x12 x13 x14 i with
 | false=>rfl
 | true=>
  obtain ⟨hF,rfl,rfl,rfl,rfl,rfl,rfl,rfl,rfl,rfl⟩:=afO hok;have hcl:=dF hF.cuts;have hsd:=hF.said;have hk:=hF.k;simp only [bz,aa,aj,if_true];rw [Ro _ _ _ _ _ _ _ _ _ _ _ _ _ _ _ _ _ _ _ hF.n,aa];unfold tkM;cases hr:zf x0 x3.length op a b with
  | false=>
   simp only [ik,ai,if_true];rw [jw _ _ _ _ _ _ _ _ _ _ _ _ _ _ (by omega)];rfl
  | true=>
   obtain ⟨r1,r2,r3,r4⟩:=anH hr;simp only [bz,aj,Bool.true_eq_false,if_false];by_cases h3':op=3
   ·subst h3';have hb:=r4 (by omega);have hl:=hF.wl_len;simp only [decide_true,ai,if_true];have ha':a.toNat<(LC x0 x3 x2).1.length:=by omega
    have hb':b.toNat<(LC x0 x3 x2).1.length:=by omega
    rw [XK _ _ _ (by omega) (by omega),if_pos (by omega),aa];dsimp only;rw [cO r2.1 (by omega),getD_at ha',aa,cO hb.1 (by omega),getD_at hb',aa];by_cases hab:(LC x0 x3 x2).1.getD a.toNat 0=(LC x0 x3 x2).1.getD b.toNat 0
    ·rw [ah hab,if_pos hab,ai,aa,jw _ _ _ _ _ _ _ _ _ _ _ _ _ _ (by omega)];rfl
    ·rw [au hab,if_neg hab,aj,aa,jw _ _ _ _ _ _ _ _ _ _ _ _ _ _ (by omega)];rfl
   ·simp only [au h3',aj,if_neg h3'];by_cases h4':op=4
    ·subst h4';obtain ⟨g1,g2,g3,g4⟩:=hF.at r2.1 r2.2;simp only [decide_true,ai,if_true,cO r2.1 g1,g2,aa];by_cases hab:x1.getD a.toNat 0=b
     ·rw [ah hab,if_pos hab,ai,jw _ _ _ _ _ _ _ _ _ _ _ _ _ _ (by omega)];rfl
     ·rw [au hab,if_neg hab,aj,V3 hF _ _ _ _ _ _ _ _ _ _ _ _ _ _ _ _ _ _ g3 g4];rfl
    ·simp only [au h4',aj,if_neg h4'];rw [acR hF i op a b (by omega) r2 (r4 h4')];rfl
end
theorem akM (l:List Ed) (e:Ed):(del l e).length<=l.length:=List.length_filter_le _ _
theorem acS {α:Type} (p q:α->Bool) (h:∀x,p x=true->q x=true->False):∀l:List α,(l.filter p).length+(l.filter q).length<=l.length
 | []=>by simp
 | x::l=>by
  have ih:=acS p q h l;rw [List.filter_cons,List.filter_cons,aX];cases hp:p x<;>cases hq:q x<;>simp only [Bool.false_eq_true,if_false,if_true,aX]<;>first
   | omega
   | exact absurd hq (fun hq=>h x hp hq)
theorem akN (l:List Ed) (e:Ed):(ins l e).length<=l.length+1:=by
 unfold ins;have:=acS (fun y=>lsB y e) (fun y=>lsB e y) (fun x h1 h2=>by
  simp only [lsB,Bool.or_eq_true,aG,decide_eq_true_eq] at h1 h2
  omega) l
 simp only [bq,aX,List.length_nil];omega
theorem aoL {n k i:Nat} (h:i<n):(OO n k)[i]?=some (1+((i % k:Nat):Int)):=by
 unfold OO;rw [List.getElem?_map,List.getElem?_range h];rfl
theorem amk (n k:Nat):(OO n k).length=n:=by simp [OO]
theorem eD {X B C:Type} {F:(X->Option B)->X->Option B} (I:X->Prop) (μ:X->Nat) (Q:X->B->Prop) (P:Option C->Prop) {x:X} {k:B->Option C} (hx:μ x<BIG) (hi:I x)
  (h:∀self x,I x->(∀y,I y->μ y<μ x->∃b,self y=some b/\Q y b)->∃b,F self x=some b/\Q x b) (hk:∀b,Q x b->P (k b)):P (Option.bind (aO BIG F x) k):=by
 obtain ⟨b,h1,h2⟩:=wu (F:=F) I μ Q h hx hi;rw [h1];exact hk b h2
theorem aej (a b:List Int) (ha:a.length<=maxLen):FD (a,b)=some (decide (a=b),()):=by
 rw [<-wz a b ha];show FC BIG _=nV BIG _;rw [aec,Gi];all_goals rfl
theorem akO {l:List Int} {v:Nat} {x:Int} (h:l[v]?=some x):(x,(v:Int))∈DL l:=by
 unfold DL;refine List.mem_map.2 ⟨(x,v),?_,rfl⟩;have:l.zipIdx[v]?=some (x,v):=by rw [List.getElem?_zipIdx,h];simp
 exact List.mem_of_getElem? this
theorem akP {l:List Int} {e:Ed} (h:e∈DL l):∃v:Nat,l[v]?=some e.1/\e.2=(v:Int):=by
 obtain ⟨p,hp,rfl⟩:=List.mem_map.1 h;obtain ⟨i,hi⟩:=List.mem_iff_getElem?.1 hp;obtain ⟨h1,h2⟩:=OZ hi;exact ⟨i,h1,by simp [h2]⟩
theorem aoM {n:Nat} {A:List Ed} (h:kR n A):pL (n:Int) (labs n A)=true:=by
 have hL:=iP h;unfold pL;rw [ah (by rw [dD]),Bool.true_and];unfold vP;rw [List.all_eq_true];intro p hp;obtain ⟨i,hi⟩:=List.mem_iff_getElem?.1 hp;obtain ⟨h1,h2⟩:=OZ hi;have:=hL.le h1;have:=hL.lt h1;rw [aC,h2];omega
theorem O3 {es:List Ed} (h:zb es):es.Nodup:=by
 refine List.Pairwise.imp (fun {a b} hab => ?_) h;rintro rfl;rw [VO] at hab;cases hab
theorem acT:∀{A:List Ed} {s s':List Ed},fM ze s A=some s'->s'=A.foldl ins s
 | [],s,s',h=>by simp only [fM,aF] at h;exact h.symm
 | e::A,s,s',h=>by
  rw [fM] at h;cases he:ze s e with
  | none=>rw [he] at h;cases h
  | some s1=>
   rw [he] at h;obtain ⟨_,rfl⟩:=SS he;exact acT (A:=A) (s:=ins s e) h
def qD (cuts es:List Ed):List Ed:=es.foldl ins cuts
def mq (own:List Int) (cuts es:List Ed) (a b:Int):List Ed:=(qD cuts es).filter (SN (own.set a.toNat b) b)
def XL (x0:Int) (x1:List Int) (x2:List Ed) (x3:List (List Int)) (x4:List Int) (x14:List Sd) (i op a b:Int) (es:List Ed):LD:=
 if ∀e,e∈es->e∉x2 then
  (if (mq x1 x2 es a b).length=0 then KA x0 (x1.set a.toNat b) (qD x2 es) x3 x4 x14 i op a b 1
   else amj x0 (x1.set a.toNat b) ((mq x1 x2 es a b).foldl del (qD x2 es)) x3 x4 x14 i op a b b 4 (mq x1 x2 es a b) 0)
 else KA x0 x1 x2 x3 x4 x14 i op a b 3
theorem acU (cuts:List Ed):∀es:List Ed,(qD cuts es).length<=cuts.length+es.length:=by
 unfold qD;intro es;induction es generalizing cuts with
 | nil=>simp
 | cons e es ih=>
  rw [List.foldl_cons,aX];have:=ih (ins cuts e);have:=akN cuts e;omega
theorem ZZ (l:List Ed):∀cuts:List Ed,(l.foldl del cuts).length<=cuts.length:=by
 induction l with
 | nil=>intro c;simp
 | cons e l ih=>
  intro c;rw [List.foldl_cons];have:=ih (del c e);have:=akM c e;omega
theorem aq8 (x0:Int) (x1:List Int) (x2:List Ed) (x3:List (List Int)) (x4:List Int) (x14:List Sd) (x5 x6 x7 x8 x9 x10 x11:Int) (x12:List Ed) (x13:Int) (i op a b sh q o:Int) (es:List Ed) (v:Int) (hn:x4.length<=1000000) (h1:1<=sh) (h2:sh<=x4.length) (h3:0<=x4.getD (sh-1).toNat 0/\x4.getD (sh-1).toNat 0<=1000000):BD ((x0,x1,x2,x3,x4,x5,x6,x7,x8,x9,x10,x11,x12,x13,x14),(i,op,a,b),sh,(q,o,es,v))=some (2,(x0,x1,x2,x3,x4,i,op,a,b,sh,x4.getD (sh-1).toNat 0+1,o,es,v,x14)):=by
 have hi:(sh-1).toNat<x4.length:=by omega
 show BC BIG _=_;rw [ab3];dsimp only;rw [wr (n:=sh-1) (by omega) (by omega),cO (by omega) (by omega),getD_at hi,aa,wr (by omega) (by omega)]
theorem aqr (x0:Int) (x1:List Int) (x2:List Ed) (x3:List (List Int)) (x4:List Int) (x14:List Sd) (x5 x6 x7 x8 x9 x10 x11:Int) (x12:List Ed) (x13:Int) (i op a b v:Int) (h:x14.length<=1048576):wL ((x0,x1,x2,x3,x4,x5,x6,x7,x8,x9,x10,x11,x12,x13,x14),(i,op,a,b),v)=some ((),(x0,x1,x2,x3,x4,0,0,0,0,0,0,0,[],0,x14++[(i,i,op,a,b,v)])):=by
 show EO BIG _=_;rw [adT];dsimp only;rw [ah (by simp only [aX,List.length_nil];omega),ai]
section
variable (x0:Int) (x1:List Int) (x2:List Ed) (x3:List (List Int)) (x4:List Int) (x14:List Sd) (i op a b:Int) (es:List Ed)
theorem aek (x5 x6 x7 x8 x9 x10 x11:Int) (x12:List Ed) (x13:Int) (h0:1<=x0/\x0<=12) (h1:(x1.length:Int)=x0) (h2:zb x2/\x2.length<=66) (h3:x3.length<=3) (h4:x4.length=x3.length) (h14:x14.length<=80) (he:zb es/\es.length<=66) (ha:0<=a/\a<=x0-1) (hb:1<=b/\b<=x3.length) (hn:∀j,j<x4.length->0<=x4.getD j 0/\x4.getD j 0<=1000000) :
  ES ((x0,x1,x2,x3,x4,x5,x6,x7,x8,x9,x10,x11,x12,x13,x14),(i,op,a,b),es)=some (frt (XL x0 x1 x2 x3 x4 x14 i op a b es)):=by
 have hm:maxLen=9223372036854775807:=by decide
 show ER BIG _=_;rw [adV];dsimp only;rw [anu es (by omega) (mk:=fun (s:Hd × List Ed) (j:Int)=>((s.1,s.2,j):Hd × List Ed × Int)) (I:=fun j (s:Hd × List Ed)=>s.1=(x0,x1,x2,x3,x4,x5,x6,x7,x8,x9,x10,x11,x12,x13,x14)/\s.2.length<=66+j) (st:=fun s e=>(ze s.2 e).map fun c=>(s.1,c)) (R:=id) (b:=((1,(x0,x1,x2,x3,x4,0,0,0,0,0,0,0,[],0,x14++[(i,i,op,a,b,3)])):Int × Hd)) (s0:=((x0,x1,x2,x3,x4,x5,x6,x7,x8,x9,x10,x11,x12,x13,x14),x2)) ⟨rfl,by simp only;omega⟩ (fun j s s' y hy ⟨k1,k2⟩ hst => ?_) (fun self s j y hy ⟨k1,k2⟩ => ?_) (fun self s hs=>by simp)]
 ·have hfm:∀(l:List Ed) (h:Hd) (c:List Ed),fM (fun (s:Hd × List Ed) e=>(ze s.2 e).map fun c=>(s.1,c)) (h,c) l=(fM ze c l).map fun c=>(h,c):=by
   intro l h;induction l with
   | nil=>intro c;rfl
   | cons e l ih=>
    intro c;rw [fM,fM];simp only;cases ze c e with
    | none=>rfl
    | some c'=>simp only [Option.map_some,aa,ih]
  rw [hfm];unfold XL;by_cases hno:∀e,e∈es->e∉x2
  ·rw [if_pos hno];obtain ⟨s',hs'⟩:=ant (s:=x2) (O3 he.1) hno;have hse:=acT hs';rw [hs'];have hs2:s'=qD x2 es:=hse;subst hs2;have hai:a.toNat<x1.length:=by omega
   have hCl:=acU x2 es;have hIl:(mq x1 x2 es a b).length<=(qD x2 es).length:=List.length_filter_le _ _;simp only [Option.map_some,id,aa];rw [cO ha.1 (by omega),aR hai,aa,akw _ _ _ (by rw [mg];omega) (by omega),aa];have e1:List.filter (SN (x1.set a.toNat b) b) (qD x2 es)=mq x1 x2 es a b:=rfl;simp only [e1];rw [lI (mq x1 x2 es a b) (by omega) (fun j (s:List Ed)=>s.length<=132) del id (by omega) (fun j s y hy hs=>by
    have:=akM s y
    omega) (fun self s j y hy hs => ?_) (fun self s _=>by simp)]
   ·simp only [id,aa];by_cases hI:(mq x1 x2 es a b).length=0
    ·rw [ah (by omega),ai,if_pos hI,List.length_eq_zero_iff.1 hI,aqr _ _ _ _ _ _ _ _ _ _ _ _ _ _ _ _ _ _ _ _ (by omega)];rfl
    ·rw [au (by omega),aj,if_neg hI,aq8 _ _ _ _ _ _ _ _ _ _ _ _ _ _ _ _ _ _ _ _ _ _ _ _ (by omega) hb.1 (by omega) (hn _ (by omega))];rfl
   ·have hj:=(aY hy).1;simp only [show ((j:Int)<((mq x1 x2 es a b).length:Int)) from by omega,decide_true,ai];rw [aK hj,hy,aa,Lv _ _ (by omega),aa,bX (by omega)]
  ·rw [if_neg hno];have hnone:fM ze x2 es=none:=by
    cases hf:fM ze x2 es with
    | none=>rfl
    | some s'=>exact absurd (afI hf).2.1 hno
   rw [hnone];rfl
 ·obtain ⟨h,c⟩:=s;simp only at k1 k2 hst;cases hc:ze c y with
  | none=>rw [hc] at hst;cases hst
  | some c'=>
   rw [hc] at hst;simp only [Option.map_some,aF] at hst;subst hst;obtain ⟨_,rfl⟩:=SS hc;have:=akN c y;exact ⟨k1,by simp only;omega⟩
 ·obtain ⟨h,c⟩:=s;simp only at k1 k2;subst k1;have hj:=(aY hy).1;simp only [show ((j:Int)<(es.length:Int)) from by omega,decide_true,ai];rw [aK hj,hy,aa,xz _ _ (by omega),aa,bX (by omega)];unfold ze;by_cases hin:y∈c
  ·rw [ah hin,ai,aqr _ _ _ _ _ _ _ _ _ _ _ _ _ _ _ _ _ _ _ _ (by omega),if_pos hin];rfl
  ·rw [au hin,aj,if_neg hin,aK hj,hy,aa,xA _ _ (by omega),aa];rfl
end
noncomputable def O4 (x0:Int) (x1:List Int) (x2:List Ed) (x3:List (List Int)) (x4:List Int) (x5 x6 x7 x8 x9 x10 x11:Int) (x12:List Ed) (x13:Int) (x14:List Sd) (sh:Int) (y:An):Bool:=
 zg x0 x1 x2 x3 x4 x14 (CO x0 x3.length x4 x14 x5 x6 x7 x8 x9 (x10,x11,x12,x13))&&(ek x0 y&&(!decide (x9=0)&&(decide (sh=x9)&&decide (y.1=x10))))
def heM (x0:Int) (x1:List Int) (x2:List Ed) (x3:List (List Int)) (x4:List Int) (x14:List Sd) (i op a b q:Int) (ok:Bool) (es:List Ed):LD:=
 if op=4 then (if q=3 then XL x0 x1 x2 x3 x4 x14 i op a b es else KA x0 x1 x2 x3 x4 x14 i op a b 1)
 else KA x0 x1 x2 x3 x4 x14 i op a b (if ok then 1 else 2)
noncomputable def heR (x0:Int) (x1:List Int) (x2:List Ed) (x3:List (List Int)) (x4:List Int) (x5 x6 x7 x8 x9 x10 x11:Int) (x12:List Ed) (x13:Int) (x14:List Sd) (sh:Int) (y:An):LD:=
 if O4 x0 x1 x2 x3 x4 x5 x6 x7 x8 x9 x10 x11 x12 x13 x14 sh y=true then heM x0 x1 x2 (x3.set (sh-1).toNat y.2.2.2) (x4.set (sh-1).toNat y.1) x14 x5 x6 x7 x8 x11 y.2.1 y.2.2.1 else (x0,x1,x2,x3,x4,x5,x6,x7,x8,x9,x10,x11,x12,x13,x14,0)
theorem aoN {x0:Int} {x1:List Int} {x2:List Ed} {x3:List (List Int)} {x4:List Int} {x5 x6 x7 x8 x9 x10 x11:Int} {x12:List Ed} {x13:Int} {x14:List Sd} {sh:Int} {y:An} (h:O4 x0 x1 x2 x3 x4 x5 x6 x7 x8 x9 x10 x11 x12 x13 x14 sh y=true) :
  HdF x0 x1 x2 x3 x4 x14/\ek x0 y=true/\sh=x9/\(1<=sh/\sh<=x3.length)/\zf x0 x3.length x6 x7 x8=true:=by
 unfold O4 at h;simp only [aG,decide_eq_true_eq,Bool.not_eq_true',decide_eq_false_iff_not] at h;obtain ⟨h1,h2,h3,h4,h5⟩:=h;obtain ⟨hF,ht⟩:=aqo h1;unfold CO at ht;rw [Bool.or_eq_true] at ht;rcases ht with ht|ht
 ·unfold tB at ht;simp only [aG,decide_eq_true_eq] at ht;exact absurd ht.2.1 h3
 ·simp only [aG,aC] at ht;exact ⟨hF,h2,h4,by rw [h4];exact ht.2.1,ht.1.2.2⟩
theorem ael {l:List Int} {i:Nat} {v:Int} (h:∀j,j<l.length->0<=l.getD j 0/\l.getD j 0<=1000000) (hv:0<=v/\v<=1000000):∀j,j<(l.set i v).length->0<=(l.set i v).getD j 0/\(l.set i v).getD j 0<=1000000:=by
 intro j hj;rw [mg] at hj;by_cases hij:i=j
 ·subst hij;rw [gD (List.getElem?_set_self hj)];exact hv
 ·rw [gD ((List.getElem?_set_ne hij).trans (getD_at hj))];exact h j hj
section
variable {x0:Int} {x1:List Int} {x2:List Ed} {x3:List (List Int)} {x4:List Int} {x14:List Sd} (i op a b:Int) (es:List Ed)
theorem aml (h2:x2.length<=66) (he:es.length<=66) (h1:x1.length<=12) (h14:x14.length<=80) :
  ∃(w c:_) (t1 t2 t3 t4 t5 t6 t7:Int) (t8:List Ed) (t9:Int) (s:List Sd) (m:Int),XL x0 x1 x2 x3 x4 x14 i op a b es=(x0,w,c,x3,x4,t1,t2,t3,t4,t5,t6,t7,t8,t9,s,m)/\w.length<=12/\c.length<=132/\t8.length<=132/\s.length<=81:=by
 have hCl:=acU x2 es;have hIl:(mq x1 x2 es a b).length<=(qD x2 es).length:=List.length_filter_le _ _;have hd:=ZZ (mq x1 x2 es a b) (qD x2 es);unfold XL;split
 ·split
  ·exact ⟨_,_,_,_,_,_,_,_,_,_,_,_,_,rfl,by rw [mg];exact h1,by omega,by simp,by simp;omega⟩
  ·exact ⟨_,_,_,_,_,_,_,_,_,_,_,_,_,rfl,by rw [mg];exact h1,by omega,by omega,by omega⟩
 ·exact ⟨_,_,_,_,_,_,_,_,_,_,_,_,_,rfl,h1,by omega,by simp,by simp;omega⟩
end
section
variable (x0:Int) (x1:List Int) (x2:List Ed) (x3:List (List Int)) (x4:List Int) (x5 x6 x7 x8 x9 x10 x11:Int) (x12:List Ed) (x13:Int) (x14:List Sd) (sh:Int) (y0:Int) (y1:Bool) (y2:List Ed) (y3:List Int) (h1:x1.length<=1048576) (h2:x2.length<=1048576) (h3:x3.length<=1048576/\∀y,y∈x3->y.length<=1048576) (h4:x4.length<=1048576) (h12:x12.length<=1048576) (h14:x14.length<=1048576) (hy2:y2.length<=1048576) (hy3:y3.length<=1048576)
include h1 h2 h3 h4 h12 h14 hy2 hy3
theorem aoO:Gj ((x0,x1,x2,x3,x4,x5,x6,x7,x8,x9,x10,x11,x12,x13,x14),sh,(y0,y1,y2,y3))=some (heR x0 x1 x2 x3 x4 x5 x6 x7 x8 x9 x10 x11 x12 x13 x14 sh (y0,y1,y2,y3),()):=by
 have hm:maxLen=9223372036854775807:=by decide
 show Xn BIG _=_;rw [aoA,Kz x0 x1 x2 x3 x4 x5 x6 x7 x8 x9 x10 x11 x12 x13 x14 h1 h2 h3 h4 h12 h14,aa];dsimp only;rw [Y_ x0 x1 x2 x3 x4 x5 x6 x7 x8 x9 x10 x11 x12 x13 x14 h1 h2 h3 h12 h14,FE x0 (y0,y1,y2,y3) hy2 hy3,XG];have hx:(Option.bind (some (zg x0 x1 x2 x3 x4 x14 (CO x0 x3.length x4 x14 x5 x6 x7 x8 x9 (x10,x11,x12,x13)),())) fun r1:Bool × Unit=>
   bif !r1.1 then some true else Option.bind (some (ek x0 (y0,y1,y2,y3),())) fun r2:Bool × Unit=>bif !r2.1 then some true else Option.bind (some (!decide (x9=0),())) fun r3:Bool × Unit=>bif !r3.1 then some true else bif !decide (sh=x9) then some true else some (!decide (y0=x10)))=some (!O4 x0 x1 x2 x3 x4 x5 x6 x7 x8 x9 x10 x11 x12 x13 x14 sh (y0,y1,y2,y3)):=by
  unfold O4;simp only [aa];cases zg x0 x1 x2 x3 x4 x14 (CO x0 x3.length x4 x14 x5 x6 x7 x8 x9 (x10,x11,x12,x13))<;>cases ek x0 (y0,y1,y2,y3)<;>cases decide (x9=0)<;>cases decide (sh=x9)<;>cases decide (y0=x10)<;>rfl
 refine (congrArg (fun o=>Option.bind o _) hx).trans ?_;unfold heR;cases hok:O4 x0 x1 x2 x3 x4 x5 x6 x7 x8 x9 x10 x11 x12 x13 x14 sh (y0,y1,y2,y3) with
 | false=>rfl
 | true=>
  obtain ⟨hF,hA,hs,hsr,hr⟩:=aoN hok;obtain ⟨r1,r2,r3,r4⟩:=anH hr;obtain ⟨a1,a2,a3,a4,a5,a6,a7⟩:=l9 hA;have hcl:=dF hF.cuts;have hel:=dF a5;have hsd:=hF.said;have hk:=hF.k;have hnum:=hF.nums;have hnn:=hF.n;have hown:=hF.own;have hn4:=ael (l:=x4) (i:=(sh-1).toNat) (fun j hj=>by have:=(hF.o3 j (by omega)).2;omega) (show 0<=y0/\y0<=1000000 by simp only at a3 a4;omega);have e4:x4[(sh-1).toNat]?=some (x4.getD (sh-1).toNat 0):=getD_at (by omega);have e3:=aR (l:=x3) (i:=(sh-1).toNat) (by omega);have h3':(x3.set (sh-1).toNat y3).length<=1048576/\∀y,y∈x3.set (sh-1).toNat y3->y.length<=1048576:=⟨by rw [mg];omega,fun y hy=>by
   rcases List.mem_or_eq_of_mem_set hy with hy|rfl
   ·exact h3.2 y hy
   ·exact hy3⟩
  simp only [bz,aa,aj,if_true];rw [wr (n:=sh-1) (by omega) (by omega),cO (by omega) (by omega),e4,aa,ah (by simp;omega),ai,cO (by omega) (by omega),e3,aa];simp only [List.nil_append];unfold heM;by_cases h6:x6=4
  ·subst h6;simp only [decide_true,bz,ai,aj,if_true,aa];by_cases h11:x11=3
   ·simp only [ah h11,ai,if_pos h11];rw [aek _ _ _ _ _ _ _ _ _ _ _ _ _ _ _ _ _ _ _ _ hF.n hF.own ⟨(jL hF.cuts).2.1,by omega⟩ (by rw [mg];omega) (by rw [mg,mg];omega) (by omega) ⟨(jL a5).2.1,by omega⟩ r2 (by rw [mg];exact r3 rfl) hn4,aa];obtain ⟨w,c,t1,t2,t3,t4,t5,t6,t7,t8,t9,s,m,e,l1,l2,l3,l4⟩:=aml (x0:=x0) (x1:=x1) (x2:=x2) (x3:=x3.set (sh-1).toNat y3) (x4:=x4.set (sh-1).toNat y0) (x14:=x14) x5 4 x7 x8 y2 (by omega) (by show y2.length<=66;exact hel) (by omega) (by omega);rw [e];simp only [frt];rw [Kz _ _ _ _ _ _ _ _ _ _ _ _ _ _ _ (by omega) (by omega) h3' (by rw [mg];omega) (by omega) (by omega),aa]
   ·simp only [au h11,aj,if_neg h11];rw [jw _ _ _ _ _ _ _ _ _ _ _ _ _ _ (by omega)];rfl
  ·simp only [au h6,ik,ai,aj,if_neg h6,aa];cases y1 with
   | true=>
    simp only [bz,aj,aa,if_true];rw [jw _ _ _ _ _ _ _ _ _ _ _ _ _ _ (by omega)];rfl
   | false=>
    simp only [ik,ai,aa,Bool.false_eq_true,if_false];rw [jw _ _ _ _ _ _ _ _ _ _ _ _ _ _ (by omega)];rfl
end
inductive FT where
 | nil
 | nd (v:Int) (c s:FT)
def FT.vs:FT->List Int
 | .nil=>[]
 | .nd v c s=>v::(c.vs++s.vs)
def FT.sg:FT->Int->List Int
 | .nil,_=>[]
 | .nd v c s,r=>v::(c.sg v++r::s.sg r)
def FT.app:FT->FT->FT
 | .nil,g=>g
 | .nd v c s,g=>.nd v c (s.app g)
def tr (v:Int) (c:FT):List Int:=v::c.sg v
theorem akR (r:Int) (g:FT):∀f:FT,(f.app g).sg r=f.sg r++g.sg r
 | .nil=>rfl
 | .nd v c s=>by
  have:=akR r g s;simp [FT.app,FT.sg,this]
theorem akS (g:FT):∀f:FT,(f.app g).vs=f.vs++g.vs
 | .nil=>rfl
 | .nd v c s=>by
  have:=akS g s;simp [FT.app,FT.vs,this]
theorem V4:∀(f:FT) (r:Int),(f.sg r).length=2*f.vs.length
 | .nil,_=>rfl
 | .nd v c s,r=>by
  have:=V4 c v;have:=V4 s r;simp only [FT.sg,FT.vs,aX,bq];omega
theorem uC (v:Int) (c:FT):(tr v c).length=2*c.vs.length+1:=by
 simp [tr,V4]
theorem acV:∀(f:FT) (r x:Int),x∈f.sg r↔x∈f.vs\/(x=r/\f.vs≠[])
 | .nil,r,x=>by simp [FT.sg,FT.vs]
 | .nd v c s,r,x=>by
  have h1:=acV c v x;have h2:=acV s r x;simp only [FT.sg,FT.vs,List.mem_cons,List.mem_append,h1,h2];constructor
  ·rintro (h | (h|⟨h,_⟩)|h|h|⟨h,_⟩)
   ·exact .inl (.inl h)
   ·exact .inl (.inr (.inl h))
   ·exact .inl (.inl h)
   ·exact .inr ⟨h,by simp⟩
   ·exact .inl (.inr (.inr h))
   ·exact .inr ⟨h,by simp⟩
  ·rintro ((h|h|h)|⟨h,_⟩)
   ·exact .inl h
   ·exact .inr (.inl (.inl h))
   ·exact .inr (.inr (.inr (.inl h)))
   ·exact .inr (.inr (.inl h))
theorem uD (v:Int) (c:FT) (x:Int):x∈tr v c↔x∈v::c.vs:=by
 simp only [tr,List.mem_cons,acV];constructor
 ·rintro (h|h|⟨h,_⟩)
  ·exact .inl h
  ·exact .inr h
  ·exact .inl h
 ·rintro (h|h)
  ·exact .inl h
  ·exact .inr (.inl h)
def pX (s:List Int × List Int) (v:Int):Option (List Int × List Int):=
 if 1<s.1.length/\s.1.getD (s.1.length-2) 0=v then some (s.1.take (s.1.length-1),s.2)
 else if (0<=v/\v<=11)/\v∉s.2 then some (s.1++[v],s.2++[v]) else none
theorem V5 {S α:Type} (st:S->α->Option S):∀(a b:List α) (s:S),fM st s (a++b)=(fM st s a).bind fun s'=>fM st s' b
 | [],b,s=>rfl
 | x::a,b,s=>by
  rw [List.cons_append,fM,fM];cases st s x with
  | none=>rfl
  | some s'=>simp only [aa,V5 st a b]
theorem acW:∀(f:FT) (r:Int) (P M:List Int),(∀x,x∈P->x∈M)->(∀x,x∈f.vs->x∉M)->f.vs.Nodup->(∀x,x∈f.vs->0<=x/\x<=11)->r∈M->fM pX (P++[r],M) (f.sg r)=some (P++[r],M++f.vs)
 | .nil,r,P,M,_,_,_,_,_=>by simp [FT.sg,FT.vs,fM]
 | .nd v c s,r,P,M,hP,hd,hn,hr,hrM=>by
  simp only [FT.vs] at hd hn hr ⊢
  rw [List.nodup_cons,List.mem_append,not_or,List.nodup_append] at hn
  obtain ⟨⟨n1,n2⟩,n3,n4,n5⟩:=hn
  have hv:=hd v (List.mem_cons_self ..)
  have s1:pX (P++[r],M) v=some (P++[r]++[v],M++[v]):=by
   unfold pX;rw [if_neg,if_pos ⟨hr v (List.mem_cons_self ..),hv⟩];rintro ⟨g1,g2⟩;simp only [bq,aX,List.length_nil] at g1 g2;have hlt:P.length+(0+1)-2<P.length:=by omega
   have:(P++[r])[P.length+(0+1)-2]?=some P[P.length+(0+1)-2]:=by
    rw [List.getElem?_append_left hlt,aR hlt]
   rw [gD this] at g2;exact hv (hP v (by rw [<-g2];exact List.getElem_mem _))
  have s2:=acW c v (P++[r]) (M++[v]) (fun x hx=>by
   rw [List.mem_append,List.mem_singleton] at hx ⊢
   rcases hx with hx|rfl
   ·exact .inl (hP x hx)
   ·exact .inl hrM) (fun x hx hm=>by
   rw [List.mem_append,List.mem_singleton] at hm
   rcases hm with hm|rfl
   ·exact hd x (List.mem_cons_of_mem _ (List.mem_append_left _ hx)) hm
   ·exact n1 hx) n3 (fun x hx=>hr x (List.mem_cons_of_mem _ (List.mem_append_left _ hx))) (by simp)
  have s3:pX (P++[r]++[v],M++[v]++c.vs) r=some (P++[r],M++[v]++c.vs):=by
   unfold pX
   rw [if_pos]
   ·have:(P++[r]++[v]).take ((P++[r]++[v]).length-1)=P++[r]:=by
     rw [show (P++[r]++[v]).length-1=(P++[r]).length from by simp,List.take_left]
    simp only
    rw [this]
   ·simp only [bq,aX,List.length_nil]
    refine ⟨by omega,?_⟩
    have:(P++[r]++[v])[P.length+(0+1)+(0+1)-2]?=some r:=by
     rw [List.getElem?_append_left (by simp),show P.length+(0+1)+(0+1)-2=P.length from by omega]
     simp
    exact gD this
  have s4:=acW s r P (M++[v]++c.vs) (fun x hx=>by simp [hP x hx]) (fun x hx hm=>by
   rw [List.mem_append,List.mem_append,List.mem_singleton] at hm
   rcases hm with (hm|rfl)|hm
   ·exact hd x (List.mem_cons_of_mem _ (List.mem_append_right _ hx)) hm
   ·exact n2 hx
   ·exact n5 x hm x hx rfl) n4 (fun x hx=>hr x (List.mem_cons_of_mem _ (List.mem_append_right _ hx))) (by simp [hrM])
  simp only [FT.sg]
  rw [fM,s1,aa,V5,s2,aa,fM,s3,aa,s4]
  simp
structure TrOk (v:Int) (c:FT):Prop where
 nd:(v::c.vs).Nodup
 rg:∀x,x∈v::c.vs->0<=x/\x<=11
theorem qE:∀(n:Nat) (l:List Int),l.Nodup->(∀x,x∈l->0<=x/\x<n)->l.length<=n
 | 0,l,_,h=>by
  cases l with
  | nil=>simp
  | cons x l=>have:=h x (List.mem_cons_self ..);omega
 | n+1,l,hn,h=>by
  have h1:=qE n (l.erase (n:Int)) (hn.erase _) (fun x hx=>by
   have h2:=(hn.mem_erase_iff).1 hx
   have:=h x h2.2
   have:=h2.1
   omega)
  have h2:=List.length_erase (a:=(n:Int)) (l:=l);split at h2
  ·rw [h2] at h1;omega
  ·rw [h2] at h1;omega
theorem TrOk.len {v:Int} {c:FT} (h:TrOk v c):c.vs.length<=11:=by
 have:=qE 12 (v::c.vs) h.nd (fun x hx=>by have:=h.rg x hx;omega);simp only [aX] at this;omega
theorem TrOk.run {v:Int} {c:FT} (h:TrOk v c):fM pX ([v],[v]) (c.sg v)=some ([v],v::c.vs):=by
 have hn:=h.nd;rw [List.nodup_cons] at hn;have:=acW c v [] [v] (by simp) (fun x hx hm=>by rw [List.mem_singleton] at hm;subst hm;exact hn.1 hx) hn.2 (fun x hx=>h.rg x (List.mem_cons_of_mem _ hx)) (by simp);simpa using this
theorem CQ {α B:Type} (a:List α) (hl:a.length<18446744073709551616) (p:α->Bool) (b:B) {F:(Int->Option (Unit ⊕ B))->Int->Option (Unit ⊕ B)}
  (hF:∀self (i:Nat) y,a[i]?=some y->F self (i:Int)=if p y then some (.inr b) else self ((i+1:Nat):Int))
  (hE:∀self,F self (a.length:Int)=some (.inl ())):aO BIG F 0=some (if a.any p=true then .inr b else .inl ()):=by
 refine rf (fun (x:Int)=>∃i:Nat,x=(i:Int)/\i<=a.length/\∀j (hj:j<a.length),j<i->p a[j]=false) (fun x=>a.length-x.toNat) (fun _=>_) (fun self x ⟨i,h1,h2,h3⟩ hs => ?_) (n:=BIG) (x:=0) (by simp;exact hl) ⟨0,rfl,by simp,fun j _ hj=>by omega⟩;subst h1;by_cases hi:i<a.length
 ·rw [hF self i a[i] (aR hi)];cases hp:p a[i] with
  | true=>rw [if_pos rfl,if_pos (List.any_eq_true.2 ⟨a[i],List.getElem_mem hi,hp⟩)]
  | false=>
   rw [if_neg (by simp)];refine hs _ ⟨i+1,rfl,hi,fun j hj hji => ?_⟩ (by simp;omega);by_cases hij:j=i
   ·subst hij;exact hp
   ·exact h3 j hj (by omega)
 ·have:i=a.length:=by omega
  subst this;rw [hE,if_neg];intro h;obtain ⟨y,hy,hp⟩:=List.any_eq_true.1 h;obtain ⟨j,hj,rfl⟩:=List.getElem_of_mem hy;rw [h3 j hj hj] at hp;cases hp
structure Fo (n:Nat) (es:List Ed) (pa:Int->Int->Prop) (rk:Int->Nat):Prop where
 rg:∀{a b},pa a b->(0<=a/\a<n)/\(0<=b/\b<n)
 ad:∀u v,((if v<u then (v,u) else (u,v))∈es)↔(pa u v\/pa v u)
 un:∀{a a' b},pa a b->pa a' b->a=a'
 up:∀{a b},pa a b->rk a<rk b
section
variable {n:Nat} {es:List Ed} {pa:Int->Int->Prop} {rk:Int->Nat} (F:Fo n es pa rk)
include F
def Nb (pa:Int->Int->Prop) (v fr u:Int):Prop:=u≠fr/\(pa u v\/pa v u)
omit F in
theorem aio {l:List Bool} {i j:Nat} (hi:i<l.length):(l.set i true).getD j false=true↔l.getD j false=true\/j=i:=by
 by_cases h:i=j
 ·subst h;rw [gD (List.getElem?_set_self hi)];simp
 ·simp only [bN,List.getElem?_set_ne h];constructor
  ·exact .inl
  ·rintro (h'|h')
   ·exact h'
   ·exact absurd h'.symm h
end
structure HdS (h:Hd):Prop where
 a:h.2.1.length<=12
 b:h.2.2.1.length<=132
 c:h.2.2.2.1.length<=3/\∀y,y∈h.2.2.2.1->y.length<=12
 d:h.2.2.2.2.1.length<=3
 e:h.2.2.2.2.2.2.2.2.2.2.2.2.1.length<=132
 f:h.2.2.2.2.2.2.2.2.2.2.2.2.2.2.length<=81
noncomputable def tkU (h:Hd) (i op a b:Int):LD:=tkR h.1 h.2.1 h.2.2.1 h.2.2.2.1 h.2.2.2.2.1 h.2.2.2.2.2.1 h.2.2.2.2.2.2.1 h.2.2.2.2.2.2.2.1 h.2.2.2.2.2.2.2.2.1 h.2.2.2.2.2.2.2.2.2.1 h.2.2.2.2.2.2.2.2.2.2.1 h.2.2.2.2.2.2.2.2.2.2.2.1 h.2.2.2.2.2.2.2.2.2.2.2.2.1 h.2.2.2.2.2.2.2.2.2.2.2.2.2.1 h.2.2.2.2.2.2.2.2.2.2.2.2.2.2 i op a b
noncomputable def heU (h:Hd) (sh:Int) (y:An):LD:=heR h.1 h.2.1 h.2.2.1 h.2.2.2.1 h.2.2.2.2.1 h.2.2.2.2.2.1 h.2.2.2.2.2.2.1 h.2.2.2.2.2.2.2.1 h.2.2.2.2.2.2.2.2.1 h.2.2.2.2.2.2.2.2.2.1 h.2.2.2.2.2.2.2.2.2.2.1 h.2.2.2.2.2.2.2.2.2.2.2.1 h.2.2.2.2.2.2.2.2.2.2.2.2.1 h.2.2.2.2.2.2.2.2.2.2.2.2.2.1 h.2.2.2.2.2.2.2.2.2.2.2.2.2.2 sh y
noncomputable def hfR (h:Hd) (y:Rc):Int × Hd:=
 if y.1=1 then frt (tkU h y.2.1 y.2.2.1 y.2.2.2.1 y.2.2.2.2.1)
 else if y.1=2 then frt (heU h y.2.2.2.2.2.1 (y.2.2.2.2.2.2.1,y.2.2.2.2.2.2.2.1,y.2.2.2.2.2.2.2.2.1,y.2.2.2.2.2.2.2.2.2.1)) else (0,h)
noncomputable def V6 (h:Hd) (y:Rc):Option Hd:=if (hfR h y).1=0 then none else some (hfR h y).2
theorem HdS.bd {h:Hd} (hs:HdS h):h.2.1.length<=1048576/\h.2.2.1.length<=1048576/\(h.2.2.2.1.length<=1048576/\∀y,y∈h.2.2.2.1->y.length<=1048576)/\h.2.2.2.2.1.length<=1048576/\h.2.2.2.2.2.2.2.2.2.2.2.2.1.length<=1048576/\h.2.2.2.2.2.2.2.2.2.2.2.2.2.2.length<=1048576:=by
 obtain ⟨a,b,c,d,e,f⟩:=hs;exact ⟨by omega,by omega,⟨by omega,fun y hy=>by have:=c.2 y hy;omega⟩,by omega,by omega,by omega⟩
theorem aoP {h:Hd} (hs:HdS h) (i op a b:Int):PT (h,(i,op,a,b))=some (tkU h i op a b,()):=by
 obtain ⟨b1,b2,b3,b4,b5,b6⟩:=hs.bd;exact aoK _ _ _ _ _ _ _ _ _ _ _ _ _ _ _ i op a b b1 b2 b3 b4 b5 b6
theorem aoQ {h:Hd} (hs:HdS h) (sh:Int) (y:An) (h2:y.2.2.1.length<=1048576) (h3:y.2.2.2.length<=1048576):Gj (h,sh,y)=some (heU h sh y,()):=by
 obtain ⟨b1,b2,b3,b4,b5,b6⟩:=hs.bd;exact aoO _ _ _ _ _ _ _ _ _ _ _ _ _ _ _ sh _ _ _ _ b1 b2 b3 b4 b5 b6 h2 h3
def FT.rts:FT->List Int
 | .nil=>[]
 | .nd v c s=>v::s.rts
theorem XM (g:FT):∀f:FT,(f.app g).rts=f.rts++g.rts
 | .nil=>rfl
 | .nd v c s=>by
  have:=XM g s;simp [FT.app,FT.rts,this]
theorem V7:∀(g:FT) {x:Int},x∈g.rts->x∈g.vs
 | .nil,x,h=>h
 | .nd v c s,x,h=>by
  simp only [FT.rts,List.mem_cons] at h;simp only [FT.vs,List.mem_cons,List.mem_append];rcases h with h|h
  ·exact .inl h
  ·exact .inr (.inr (V7 s h))
def RtO (pa:Int->Int->Prop) (v fr:Int) (g:FT):Prop:=g.rts.Pairwise (· < ·)/\∀u,u∈g.rts↔Nb pa v fr u
def GF (pa:Int->Int->Prop):FT->Int->Prop
 | .nil,_=>True
 | .nd u c s,v=>(RtO pa u v c/\GF pa c u)/\GF pa s v
theorem akV {pa:Int->Int->Prop} {v:Int} {g:FT}:∀{f:FT},GF pa f v->GF pa g v->GF pa (f.app g) v
 | .nil,_,h=>h
 | .nd u c s,h,h'=>⟨h.1,akV h.2 h'⟩
def QF (pa:Int->Int->Prop) (v fr:Int) (i:Nat) (f:FT):Prop:=f.rts.Pairwise (· < ·)/\(∀u,u∈f.rts↔Nb pa v fr u/\u<i)/\GF pa f v
theorem aoR {pa:Int->Int->Prop} {v fr:Int} {i:Nat} {f:FT} (h:QF pa v fr i f) (hno:¬Nb pa v fr i):QF pa v fr (i+1) f:=by
 refine ⟨h.1,fun u => ?_,h.2.2⟩;rw [h.2.1];constructor
 ·rintro ⟨h1,h2⟩;exact ⟨h1,by omega⟩
 ·rintro ⟨h1,h2⟩;refine ⟨h1,?_⟩;by_cases hu:u=(i:Int)
  ·subst hu;exact absurd h1 hno
  ·omega
theorem aqs {pa:Int->Int->Prop} {v fr:Int} {i:Nat} {f g:FT} (h:QF pa v fr i f) (hnb:Nb pa v fr i) (hg:RtO pa i v g) (hg':GF pa g i):QF pa v fr (i+1) (f.app (.nd i g .nil)):=by
 refine ⟨?_,fun u => ?_,akV h.2.2 ⟨⟨hg,hg'⟩,trivial⟩⟩
 ·rw [XM];simp only [FT.rts];rw [List.pairwise_append];refine ⟨h.1,by simp,fun a ha b hb => ?_⟩;rw [List.mem_singleton] at hb;subst hb;exact ((h.2.1 a).1 ha).2
 ·rw [XM,List.mem_append,h.2.1];simp only [FT.rts,List.mem_singleton];constructor
  ·rintro (⟨h1,h2⟩|rfl)
   ·exact ⟨h1,by omega⟩
   ·exact ⟨hnb,by omega⟩
  ·rintro ⟨h1,h2⟩;by_cases hu:u=(i:Int)
   ·exact .inr hu
   ·exact .inl ⟨h1,by omega⟩
theorem DN {n:Nat} {e:Ed} (h:cZ n e=true):0<=e.1/\e.1<e.2/\e.2<n:=by
 unfold cZ at h;simp only [aG,aC,decide_eq_true_eq] at h;omega
def FT.pr:FT->Int->List (Int × Int)
 | .nil,_=>[]
 | .nd w c s,r=>(r,w)::(c.pr w++s.pr r)
theorem Td:∀(f:FT) (r:Int) (S:Int->Prop),S r->(∀a b,(a,b)∈f.pr r->S a->S b)->∀x,x∈f.vs->S x
 | .nil,_,_,_,_,x,h=>by cases h
 | .nd w c s,r,S,hr,hs,x,h=>by
  have hw:S w:=hs r w (List.mem_cons_self ..) hr;simp only [FT.vs,List.mem_cons,List.mem_append] at h;rcases h with rfl|h|h
  ·exact hw
  ·exact Td c w S hw (fun a b hab=>hs a b (List.mem_cons_of_mem _ (List.mem_append_left _ hab))) x h
  ·exact Td s r S hr (fun a b hab=>hs a b (List.mem_cons_of_mem _ (List.mem_append_right _ hab))) x h
theorem jy {α:Type} [DecidableEq α]:∀(l1 l2:List α),l1.Nodup->(∀x,x∈l1->x∈l2)->l1.length<=l2.length
 | [],l2,_,_=>by simp
 | x::l1,l2,hn,h=>by
  rw [List.nodup_cons] at hn;have hx:=h x (List.mem_cons_self ..);have:=jy l1 (l2.erase x) hn.2 fun y hy=>(List.mem_erase_of_ne (by rintro rfl;exact hn.1 hy)).2 (h y (List.mem_cons_of_mem _ hy))
  rw [List.length_erase_of_mem hx] at this;have:=List.length_pos_of_mem hx;simp only [aX];omega
theorem Te {α β:Type} (f:α->β):∀(l:List α),l.Nodup->(∀x,x∈l->∀y,y∈l->f x=f y->x=y)->(l.map f).Nodup
 | [],_,_=>by simp
 | x::l,hn,h=>by
  rw [List.nodup_cons] at hn;rw [List.map_cons,List.nodup_cons];refine ⟨fun hm => ?_,Te f l hn.2 fun a ha b hb=>h a (List.mem_cons_of_mem _ ha) b (List.mem_cons_of_mem _ hb)⟩;obtain ⟨y,hy,e⟩:=List.mem_map.1 hm;have:=h y (List.mem_cons_of_mem _ hy) x (List.mem_cons_self ..) e;subst this;exact hn.1 hy
theorem DR {pa:Int->Int->Prop}:∀(c:FT) (u:Int),GF pa c u->∀y,y∈c.vs->∀z,(pa z y\/pa y z)->z∈c.vs\/z=u
 | .nil,_,_,y,h,_,_=>by cases h
 | .nd w c s,u,⟨⟨hR,hG⟩,hS⟩,y,h,z,hz=>by
  simp only [FT.vs,List.mem_cons,List.mem_append] at h ⊢;rcases h with rfl|h|h
  ·by_cases hzu:z=u
   ·exact .inr hzu
   ·exact .inl (.inr (.inl (V7 c ((hR.2 z).2 ⟨hzu,hz⟩))))
  ·rcases DR c w hG y h z hz with h1|h1
   ·exact .inl (.inr (.inl h1))
   ·exact .inl (.inl h1)
  ·rcases DR s u hS y h z hz with h1|h1
   ·exact .inl (.inr (.inr h1))
   ·exact .inr h1
structure TrE (v:Int) (f:FT) (E:List Ed):Prop where
 nd:E.Nodup
 mem:∀a b,(a,b)∈E↔a<b/\((a,b)∈f.pr v\/(b,a)∈f.pr v)
section
variable {v:Int} {f:FT} {E:List Ed} (ht:TrOk v f) (hE:TrE v f E)
include ht
include hE
end
def mE (E:List Ed) (e:Ed):List Ed:=E.filter fun x=>decide (x≠e)
theorem kr {E:List Ed} {e x:Ed}:x∈mE E e↔x∈E/\x≠e:=by simp [mE]
def NoCyc (E:List Ed):Prop:=∀e,e∈E->¬Con (mE E e) e.1 e.2
theorem NoCyc.sub {E E':List Ed} (h:NoCyc E) (hs:∀e,e∈E'->e∈E):NoCyc E':=fun e he hc=>
 h e (hs e he) (hc.mono fun x hx=>kr.2 ⟨hs x (kr.1 hx).1,(kr.1 hx).2⟩)
theorem V8 {l:List Ed} {a b:Int} (h:NoCyc l) (hx:¬Con l a b):NoCyc (l++[(a,b)]):=by
 intro e he hc;by_cases hea:e=(a,b)
 ·subst hea;refine hx (hc.mono fun x hx' => ?_);obtain ⟨h1,h2⟩:=kr.1 hx';rw [List.mem_append,List.mem_singleton] at h1;rcases h1 with h1|h1
  ·exact h1
  ·exact absurd h1 h2
 ·have hel:e∈l:=by
   rw [List.mem_append,List.mem_singleton] at he;rcases he with he|he
   ·exact he
   ·exact absurd he hea
  have hm:mE (l++[(a,b)]) e=mE l e++[(a,b)]:=by
   unfold mE;rw [List.filter_append];simp [Ne.symm hea]
  have hsub:∀{x y:Int},Con (mE l e) x y->Con l x y:=fun hc=>hc.mono fun x hx=>(kr.1 hx).1
  have hee:Con l e.1 e.2:=.of hel;rw [hm] at hc;rcases Con.snoc.1 hc with h1|⟨h1,h2⟩|⟨h1,h2⟩
  ·exact h e hel h1
  ·exact hx (((hsub h1).symm.trans hee).trans (hsub h2).symm)
  ·exact hx (((hsub h2).trans hee.symm).trans (hsub h1))
def ed (a b:Int):Ed:=if a<b then (a,b) else (b,a)
theorem wB (a b:Int):ed a b=ed b a:=by
 unfold ed;by_cases h:a<b
 ·rw [if_pos h,if_neg (by omega)]
 ·by_cases h':b<a
  ·rw [if_neg h,if_pos h']
  ·have:a=b:=by omega
   rw [this]
theorem akW {v u w:Int} (h:ed v u=ed v w):u=w:=by
 unfold ed at h;split at h<;>split at h<;>simp only [Prod.mk.injEq] at h<;>omega
theorem akX (v u:Int):(ed v u).1=v\/(ed v u).2=v:=by
 unfold ed;split
 ·exact .inl rfl
 ·exact .inr rfl
def ad (E:List Ed) (u v:Int):Prop:=(u,v)∈E\/(v,u)∈E
theorem PY {E:List Ed} {u v:Int} (h:ad E u v):ad E v u:=h.symm
theorem acX {E:List Ed} {a b:Int} (h:ed a b∈E):Con E a b:=by
 unfold ed at h;split at h
 ·exact .of h
 ·exact (Con.of h).symm
section
variable {n:Nat} {E:List Ed} (hE:∀e,e∈E->cZ n e=true)
include hE
theorem PZ {a b:Int}:ed a b∈E↔ad E a b:=by
 unfold ed ad;constructor
 ·intro h;split at h
  ·exact .inl h
  ·exact .inr h
 ·rintro (h|h)
  ·have:=DN (hE _ h);rw [if_pos this.2.1];exact h
  ·have:=DN (hE _ h);simp only at this;rw [if_neg (by omega)];exact h
theorem P5 {a b:Int} (h:ad E a b):(0<=a/\a<n)/\(0<=b/\b<n)/\a≠b:=by
 rcases h with h|h
 ·have:=DN (hE _ h);simp only at this;omega
 ·have:=DN (hE _ h);simp only at this;omega
end
def LF (E:List Ed) (v fr x:Int):Prop:=fr = -1\/Con (mE E (ed v fr)) v x
theorem acY (E:List Ed) (v fr:Int):LF E v fr v:=.inr (.refl _)
section
variable {E:List Ed} (hN:NoCyc E)
include hN
theorem P6 {u v:Int} (he:ed u v∈E):¬Con (mE E (ed u v)) u v:=by
 intro hc;refine hN _ he ?_;unfold ed at hc ⊢;split
 ·rename_i h;rw [if_pos h] at hc;exact hc
 ·rename_i h;rw [if_neg h] at hc;exact hc.symm
theorem akY {u v x:Int} (he:ed u v∈E) {e1:Ed} (h1:e1.1=v\/e1.2=v) (h:Con (mE E (ed u v)) u x):Con (mE E e1) u x:=by
 induction h with
 | refl=>exact .refl _
 | fwd hc hm ih=>
  refine .fwd ih (kr.2 ⟨(kr.1 hm).1,?_⟩);rintro rfl;rcases h1 with h1|h1
  ·simp only at h1;subst h1;exact P6 hN he hc
  ·simp only at h1;subst h1;exact P6 hN he (.fwd hc hm)
 | bwd hc hm ih=>
  refine .bwd ih (kr.2 ⟨(kr.1 hm).1,?_⟩);rintro rfl;rcases h1 with h1|h1
  ·simp only at h1;subst h1;exact P6 hN he (.bwd hc hm)
  ·simp only at h1;subst h1;exact P6 hN he hc
theorem afS {n:Nat} (hE:∀e,e∈E->cZ n e=true) {v fr u x:Int} (hu:Nb (ad E) v fr u) (h:LF E u v x):LF E v fr x/\x≠v:=by
 have had:ad E u v:=by
  rcases hu.2 with h|h
  ·exact h
  ·exact PY h
 have hrg:=P5 hE had;have he:ed u v∈E:=(PZ hE).2 had;have hc:Con (mE E (ed u v)) u x:=by
  rcases h with h|h
  ·omega
  ·exact h
 refine ⟨.inr ?_,?_⟩
 ·refine Con.trans ?_ (akY hN he (e1:=ed v fr) (akX v fr) hc);refine acX (kr.2 ⟨by rw [wB];exact he,fun h=>hu.1 (akW h)⟩)
 ·rintro rfl;exact P6 hN he hc
theorem aoS {n:Nat} (hE:∀e,e∈E->cZ n e=true) {v fr u u' x:Int} (hu:Nb (ad E) v fr u) (hu':Nb (ad E) v fr u') (h:LF E u v x) (h':LF E u' v x):u=u':=by
 have conv:∀{w:Int},Nb (ad E) v fr w->ad E w v:=fun hw=>by
  rcases hw.2 with h|h
  ·exact h
  ·exact PY h
 have hrg:=P5 hE (conv hu);have he:=(PZ hE).2 (conv hu);have he':=(PZ hE).2 (conv hu');have hc:Con (mE E (ed u v)) u x:=by
  rcases h with h|h
  ·omega
  ·exact h
 have hc':Con (mE E (ed u' v)) u' x:=by
  rcases h' with h|h
  ·omega
  ·exact h
 apply Classical.byContradiction;intro hne;refine P6 hN he' ?_;have h1:Con (mE E (ed u' v)) u x:=akY hN he (e1:=ed u' v) (by rw [wB];exact akX v u') hc;have h2:Con (mE E (ed u' v)) u v:=acX (kr.2 ⟨he,fun h=>hne (akW (v:=v) (by rw [wB v u,wB v u'];exact h))⟩);exact (hc'.trans h1.symm).trans h2
end
def WG (n:Nat) (pa:Int->Int->Prop) (v fr:Int) (seen:List Bool) (f:FT) (seen':List Bool):Prop:=
 (v::f.vs).Nodup/\(∀x,x∈v::f.vs->(0<=x/\x<n)/\seen.getD x.toNat false=false)/\(∀x:Nat,x<n->(seen'.getD x false=true↔seen.getD x false=true\/(x:Int)∈v::f.vs))/\RtO pa v fr f/\GF pa f v
def Zb (n:Nat) (E:List Ed) (v fr:Int) (seen:List Bool):Prop:=NoCyc E/\∀x:Nat,x<n->LF E v fr x->seen.getD x false=false
section
variable {n:Nat} {E:List Ed} (hE:∀e,e∈E->cZ n e=true)
include hE
theorem akZ {v fr u:Int} (h:Nb (ad E) v fr u):(0<=u/\u<n):=by
 rcases h.2 with h|h
 ·exact (P5 hE h).1
 ·exact (P5 hE h).2.1
theorem anI (hn:n<=12) (hes:E.length<=1048576):∀(d:Nat) (v fr:Int) (seen:List Bool) (W:List Int),seen.length=n->(0<=v/\v<n)->seen.getD v.toNat false=false->W.Nodup->(∀x,x∈W->(0<=x/\x<n)/\seen.getD x.toNat false=true)->n<W.length+d ->
  ∃t ring seen',tJ d ((n:Int),E,v,fr,seen)=some ((t,ring),seen')/\seen'.length=n/\(ring=false->∃f,t=tr v f/\WG n (ad E) v fr seen f seen')/\(Zb n E v fr seen->ring=false/\∀x,x∈t->LF E v fr x)
 | 0,v,fr,seen,W,_,_,_,hWn,hW,hd=>by
  have:=qE n W hWn (fun x hx=>(hW x hx).1)
  omega
 | d+1,v,fr,seen,W,hs,hv,hvf,hWn,hW,hd=>by
  have hm:maxLen=9223372036854775807:=by decide
  have hvn:v.toNat<seen.length:=by omega
  have hvW:v∉W:=fun h=>by
   have:=(hW v h).2
   rw [hvf] at this;cases this
  have hW'n:(v::W).Nodup:=List.nodup_cons.2 ⟨hvW,hWn⟩
  show ∃t ring seen',IL (tJ d) BIG _=_/\_
  rw [ahe]
  rw [cO hv.1 (by omega),aR hvn,aa]
  refine eD (x:=([v],seen.set v.toNat true,(0:Int))) (P:=fun o=>∃t ring seen',o=some ((t,ring),seen')/\seen'.length=n/\(ring=false->∃f,t=tr v f/\WG n (ad E) v fr seen f seen')/\(Zb n E v fr seen->ring=false/\∀x,x∈t->LF E v fr x))
   (fun (x:List Int × List Bool × Int)=>∃(i:Nat) (f:FT),x.2.2=(i:Int)/\i<=n/\x.1=tr v f/\x.2.1.length=n/\(v::f.vs).Nodup/\(∀y,y∈v::f.vs->(0<=y/\y<n)/\seen.getD y.toNat false=false)/\(∀y:Nat,y<n->(x.2.1.getD y false=true↔seen.getD y false=true\/(y:Int)∈v::f.vs))/\QF (ad E) v fr i f/\(Zb n E v fr seen->∀y,y∈f.vs->∃u:Nat,u<i/\Nb (ad E) v fr u/\LF E u v y))
   (fun x=>n-x.2.2.toNat) (fun _ (b:(List Int × List Bool) ⊕ (List Int × Bool × List Bool))=>(∃f seen',b = .inl (tr v f,seen')/\seen'.length=n/\WG n (ad E) v fr seen f seen'/\(Zb n E v fr seen->∀x,x∈tr v f->LF E v fr x))\/(∃t seen',b = .inr (t,true,seen')/\seen'.length=n/\¬Zb n E v fr seen)) (by simp [BIG];omega)
   ⟨0,.nil,rfl,by omega,rfl,by rw [mg];exact hs,by simp [FT.vs],fun y hy => ?_,fun y hy => ?_,⟨List.Pairwise.nil,fun u => ?_,trivial⟩,fun _ y hy=>by simp [FT.vs] at hy⟩ (fun self x hx hself => ?_) (fun b hb => ?_)
  ·simp only [FT.vs,List.mem_cons,List.not_mem_nil,or_false] at hy
   subst hy
   exact ⟨hv,hvf⟩
  ·rw [aio hvn]
   simp only [FT.vs,List.mem_cons,List.not_mem_nil,or_false]
   constructor
   ·rintro (h|h)
    ·exact .inl h
    ·exact .inr (by omega)
   ·rintro (h|h)
    ·exact .inl h
    ·exact .inr (by omega)
  ·simp only [FT.rts,List.not_mem_nil,false_iff,not_and]
   intro h
   have:=akZ hE h
   omega
  ·obtain ⟨out,sn,u⟩:=x
   obtain ⟨i,f,h1,h2,h3,h4,h5,h6,h7,h8,h9⟩:=hx
   simp only at h1 h2 h3 h4 h5 h6 h7 h8 h9 hself ⊢
   subst h1 h3
   by_cases hi:i<n
   ·have hed:(bif decide (v<(i:Int)) then some (v,(i:Int)) else some ((i:Int),v))=some (ed v i):=by
     unfold ed;by_cases h:v<(i:Int)
     ·rw [ah h,if_pos h];rfl
     ·rw [au h,if_neg h];rfl
    simp only [show ((i:Int)<(n:Int)) from by omega,decide_true,ai,hed,aa]
    have hskip:¬Nb (ad E) v fr i->∃b,self (tr v f,sn,IntKind.wrap .i64 ((i:Int)+1))=some b/\((∃f seen',b = .inl (tr v f,seen')/\seen'.length=n/\WG n (ad E) v fr seen f seen'/\(Zb n E v fr seen->∀x,x∈tr v f->LF E v fr x))\/(∃t seen',b = .inr (t,true,seen')/\seen'.length=n/\¬Zb n E v fr seen)):=by
     intro hno
     rw [bX (by omega)]
     exact hself _ ⟨i+1,f,rfl,by omega,rfl,h4,h5,h6,h7,aoR h8 hno,fun hw y hy=>by
      obtain ⟨u,g2,g3⟩:=h9 hw y hy
      exact ⟨u,by omega,g3⟩⟩ (by simp;omega)
    by_cases hif:(i:Int)=fr
    ·rw [ah hif]
     simp only [ai,aa]
     exact hskip (fun h=>h.1 hif)
    ·rw [au hif]
     rw [aj,xz _ _ (by omega),aa]
     by_cases hin:ed v i∈E
     ·have had:ad E v i:=(PZ hE).1 hin
      have hnb:Nb (ad E) v fr i:=⟨hif,.inr had⟩
      have hil:i<sn.length:=by omega
      rw [ah hin]
      simp only [bz,aa,aj]
      rw [aK hil,aR hil,aa]
      have hgi:sn.getD i false=sn[i]:=gD (aR hil)
      -- nothing of i's side was met before
      have hfree:Zb n E v fr seen->∀x:Nat,x<n->LF E i v x->sn.getD x false=false:=by
       intro hw x hx hb
       obtain ⟨b1,b2⟩:=afS hw.1 hE hnb hb
       cases hg:sn.getD x false with
       | false=>rfl
       | true=>
        exfalso
        rcases (h7 x hx).1 hg with h|h
        ·rw [hw.2 x hx b1] at h;cases h
        ·rw [List.mem_cons] at h
         rcases h with h|h
         ·exact b2 h
         ·obtain ⟨u,u1,u2,u3⟩:=h9 hw _ h
          have:=aoS hw.1 hE u2 hnb u3 hb
          omega
      by_cases hsi:sn[i]=true
      ·rw [hsi,ai,aa]
       refine ⟨_,rfl,.inr ⟨_,_,rfl,h4,fun hw => ?_⟩⟩
       have:=hfree hw i hi (acY E i v)
       rw [hgi,hsi] at this
       cases this
      ·have hsf:sn[i]=false:=by simpa using hsi
       rw [hsf,aj]
       obtain ⟨t,ring,sn',e1,w1,w2,w3⟩:=anI hn hes d i v sn (v::W) h4 (by omega) (by rw [dC,hgi,hsf]) hW'n (fun x hx=>by
        rw [List.mem_cons] at hx
        rcases hx with rfl|hx
        ·exact ⟨hv,by rw [h7 x.toNat (by omega),Int.toNat_of_nonneg hv.1];exact .inr (List.mem_cons_self ..)⟩
        ·obtain ⟨x1,x2⟩:=hW x hx
         exact ⟨x1,by rw [h7 x.toNat (by omega)];exact .inl x2⟩) (by simp only [aX];omega)
       rw [e1,aa]
       cases ring with
       | true=>
        rw [ai,aa]
        refine ⟨_,rfl,.inr ⟨_,_,rfl,w1,fun hw => ?_⟩⟩
        have:=(w3 ⟨hw.1,hfree hw⟩).1
        cases this
       | false=>
        obtain ⟨g,rfl,k1,k2,k3,k4,k5⟩:=w2 rfl
        have hvl:f.vs.length<=12:=by
         have:=qE n (v::f.vs) h5 (fun x hx=>(h6 x hx).1)
         simp only [aX] at this;omega
        have hgl:g.vs.length<=12:=by
         have:=qE n (_::g.vs) k1 (fun x hx=>(k2 x hx).1)
         simp only [aX] at this;omega
        simp only [aj]
        rw [ah (by simp only [uC];omega),ai,ah (by simp only [bq,uC,aX,List.length_nil];omega),ai,aa]
        have eo:(tr v f++tr i g)++[v]=tr v (f.app (.nd i g .nil)):=by simp [tr,akR,FT.sg]
        simp only [eo]
        have evs:(f.app (.nd i g .nil)).vs=f.vs++((i:Int)::g.vs):=by rw [akS];simp [FT.vs]
        rw [bX (by omega)]
        refine hself _ ⟨i+1,_,rfl,by omega,rfl,w1,?_,fun y hy => ?_,fun y hy => ?_,aqs h8 hnb k4 k5,fun hw y hy => ?_⟩ (by simp;omega)
        ·rw [evs]
         have:(v::(f.vs++(i:Int)::g.vs))=(v::f.vs)++(i:Int)::g.vs:=rfl
         rw [this,List.nodup_append]
         refine ⟨h5,k1,fun a ha b hb hab => ?_⟩
         subst hab
         have h6':=h6 a ha
         have h7':=(h7 a.toNat (by omega)).2 (.inr (by rw [Int.toNat_of_nonneg h6'.1.1];exact ha))
         rw [(k2 a hb).2] at h7'
         cases h7'
        ·rw [evs] at hy
         have:y∈(v::f.vs)\/y∈(i:Int)::g.vs:=by
          rw [List.mem_cons,List.mem_append] at hy
          rcases hy with hy|hy|hy
          ·exact .inl (hy▸List.mem_cons_self ..)
          ·exact .inl (List.mem_cons_of_mem _ hy)
          ·exact .inr hy
         rcases this with hy|hy
         ·exact h6 y hy
         ·refine ⟨(k2 y hy).1,?_⟩
          have h0:=(k2 y hy).1
          cases hg:seen.getD y.toNat false with
          | false=>rfl
          | true=>
           have:=(h7 y.toNat (by omega)).2 (.inl hg)
           rw [(k2 y hy).2] at this
           cases this
        ·rw [k3 y hy,h7 y hy,evs]
         simp only [List.mem_cons,List.mem_append]
         constructor
         ·rintro ((h|h|h)|h|h)
          ·exact .inl h
          ·exact .inr (.inl h)
          ·exact .inr (.inr (.inl h))
          ·exact .inr (.inr (.inr (.inl h)))
          ·exact .inr (.inr (.inr (.inr h)))
         ·rintro (h|h|h|h|h)
          ·exact .inl (.inl h)
          ·exact .inl (.inr (.inl h))
          ·exact .inl (.inr (.inr h))
          ·exact .inr (.inl h)
          ·exact .inr (.inr h)
        ·rw [evs,List.mem_append] at hy
         rcases hy with hy|hy
         ·obtain ⟨u,g2,g3⟩:=h9 hw y hy
          exact ⟨u,by omega,g3⟩
         ·exact ⟨i,by omega,hnb,(w3 ⟨hw.1,hfree hw⟩).2 y ((uD _ _ _).2 hy)⟩
     ·rw [au hin]
      simp only [ik,aa,ai]
      refine hskip (fun h=>hin ((PZ hE).2 ?_))
      rcases h.2 with h|h
      ·exact PY h
      ·exact h
   ·simp only [show ¬((i:Int)<(n:Int)) from by omega,decide_false,aj]
    have hin:i=n:=by omega
    subst hin
    refine ⟨_,rfl,.inl ⟨f,sn,rfl,h4,⟨h5,h6,h7,⟨h8.1,fun u => ?_⟩,h8.2.2⟩,fun hw x hx => ?_⟩⟩
    ·rw [h8.2.1]
     exact ⟨fun h=>h.1,fun h=>⟨h,(akZ hE h).2⟩⟩
    ·rw [uD,List.mem_cons] at hx
     rcases hx with rfl|hx
     ·exact acY ..
     ·obtain ⟨u,u1,u2,u3⟩:=h9 hw x hx
      exact (afS hw.1 hE u2 u3).1
  ·rcases hb with ⟨f,seen',rfl,h1,h2,h3⟩|⟨t,seen',rfl,h1,h2⟩
   ·exact ⟨_,_,_,rfl,h1,fun _=>⟨f,rfl,h2⟩,fun hw=>⟨rfl,h3 hw⟩⟩
   ·exact ⟨_,_,_,rfl,h1,fun h=>(by cases h),fun hw=>absurd hw h2⟩
end
theorem wC (l:List Int) (x:Int) (hl:l.length<=1048576):g_ (l,x)=some (decide (x∈l),()):=by
 have hm:maxLen=9223372036854775807:=by decide
 show Sm BIG _=_;rw [al4,CQ l (by omega) (fun y=>decide (y=x)) true (fun self i y hy => ?_) (fun self=>by simp)]
 ·rw [aa];have:l.any (fun y=>decide (y=x))=true↔x∈l:=by
   rw [List.any_eq_true];constructor
   ·rintro ⟨y,hy,h⟩;rw [decide_eq_true_eq] at h;rw [<-h];exact hy
   ·exact fun h=>⟨x,h,by simp⟩
  by_cases h:x∈l
  ·rw [if_pos (this.2 h),ah h]
  ·rw [if_neg (fun h'=>h (this.1 h')),au h]
 ·have hi:=(aY hy).1;simp only [show ((i:Int)<(l.length:Int)) from by omega,decide_true,ai];rw [aK hi,hy,aa,bX (by omega)];by_cases h:y=x<;>simp [h]
theorem aip {v:Int} {c:FT} (h:TrOk v c):IW (tr v c)=some (true,()):=by
 have hm:maxLen=9223372036854775807:=by decide
 have hl:=h.len;have hlen:=uC v c;have hsl:=V4 c v;have e0:(tr v c)[Int.toNat 0]?=some v:=rfl;have b0:∀{B:Type} {k:Nat->Option B},bnd (tr v c).length 0 k=k (Int.toNat 0):=fun {B k}=>cO (by omega) (by omega)
 show IV BIG _=_;rw [ahj];simp only [b0,e0,aa];refine eD (P:=fun o=>o=some (true,())) (fun (x:List Int × List Int × Int)=>∃j:Nat,x.2.2=((j+1:Nat):Int)/\j<=(c.sg v).length/\fM pX ([v],[v]) ((c.sg v).take j)=some (x.1,x.2.1)/\1<=x.1.length/\x.1.length<=j+1/\x.2.1.length<=j+1) (fun x=>(tr v c).length-x.2.2.toNat)
  (fun _ (b:List Int ⊕ Bool)=>b = .inl [v]) (by simp [BIG];omega) ⟨0,rfl,by omega,rfl,by simp,by simp,by simp⟩ (fun self x hx hs => ?_) (fun b hb=>by subst hb;rfl)
 obtain ⟨p,q,jj⟩:=x;obtain ⟨j,h1,h2,h3,k1,k2,k3⟩:=hx;simp only at h1 h2 h3 k1 k2 k3 hs ⊢;subst h1;by_cases hj:j<(c.sg v).length
 ·have hj1:j+1<(tr v c).length:=by omega
  have hy:(tr v c)[j+1]?=some (c.sg v)[j]:=by
   show (c.sg v)[j]?=_;exact aR hj
  have bj:∀{B:Type} {k:Nat->Option B},bnd (tr v c).length ((j+1:Nat):Int) k=k (j+1):=fun {B k}=>aK hj1
  generalize hye:(c.sg v)[j]=y at hy
  -- the step is one of the run's
  have hst:∃s',pX (p,q) y=some s':=by
   have hr:=h.run;rw [<-List.take_append_drop j (c.sg v),V5,h3,aa,List.drop_eq_getElem_cons hj,fM,hye] at hr;cases hs':pX (p,q) y with
   | none=>rw [hs'] at hr;cases hr
   | some s'=>exact ⟨s',rfl⟩
  have htk:∀{s'},pX (p,q) y=some s'->fM pX ([v],[v]) ((c.sg v).take (j+1))=some s':=by
   intro s' hs';rw [List.take_succ_eq_append_getElem hj,V5,h3,aa,fM,hye,hs'];rfl
  obtain ⟨s',hst⟩:=hst;have ht:=htk hst;simp only [show (((j+1:Nat):Int)<((tr v c).length:Int)) from by omega,decide_true,ai,bj,hy,aa];have hw1:IntKind.wrap .i64 ((p.length:Int)-1)=((p.length-1:Nat):Int):=by rw [wr (by omega) (by omega)];omega
  have hpop:(bif decide ((1:Int)<(p.length:Int)) then
     bnd p.length (IntKind.wrap .i64 ((p.length:Int)-(2:Int))) fun n8=>
     Option.bind p[n8]? fun y9=>
     some (decide (y=y9))
     else some false)=some (decide (1<p.length/\p.getD (p.length-2) 0=y)):=by
   by_cases h1:1<p.length
   ·have hw2:IntKind.wrap .i64 ((p.length:Int)-2)=((p.length-2:Nat):Int):=by rw [wr (by omega) (by omega)];omega
    rw [ah (by omega),ai,hw2,aK (by omega),getD_at (by omega),aa];by_cases hq:p.getD (p.length-2) 0=y
    ·rw [ah hq.symm,ah ⟨h1,hq⟩]
    ·rw [au (fun h=>hq h.symm),au (fun h=>hq h.2)]
   ·rw [au (by omega),aj,au (fun h=>h1 h.1)]
  rw [hpop,aa];unfold pX at hst;by_cases hc:1<p.length/\p.getD (p.length-2) 0=y
  ·rw [if_pos hc] at hst;cases hst;simp only [ah hc,ai,hw1];rw [ah (by omega),ai,dC,ah (by omega),ai,aa,Nat.sub_zero,List.drop_zero];simp only;rw [bX (by omega)];refine hs _ ⟨j+1,rfl,hj,ht,?_,?_,by simp only;omega⟩ (by simp;omega)
   ·simp only [List.length_take];omega
   ·simp only [List.length_take];omega
  ·rw [if_neg hc] at hst;split at hst;case isFalse=>cases hst
   case isTrue hq=>
   cases hst;simp only [au hc,aj];rw [wC q y (by omega),aa];simp only [au hq.2,aj];rw [ah (by simp only [aX,List.length_nil];omega),ai,ah (by simp only [aX,List.length_nil];omega),ai,aa];simp only;rw [bX (by omega)];refine hs _ ⟨j+1,rfl,hj,ht,?_,?_,?_⟩ (by simp;omega)
   ·simp only [bq,aX,List.length_nil];omega
   ·simp only [bq,aX,List.length_nil];omega
   ·simp only [bq,aX,List.length_nil];omega
 ·have:j=(c.sg v).length:=by omega
  subst this;rw [List.take_length,h.run] at h3;cases h3;simp only [show ¬((((c.sg v).length+1:Nat):Int)<((tr v c).length:Int)) from by omega,decide_false,aj];exact ⟨_,rfl,rfl⟩
theorem ak0 {v:Int} {c:FT} (h:TrOk v c):Nq (tr v c)=some (true,()):=by
 have hm:maxLen=9223372036854775807:=by decide
 have hl:=h.len;have hlen:=uC v c;show Np BIG _=_;rw [aj8,bT,show aP ((tr v c).length:Int) 1 23=true from aC.2 (by omega),aa];simp only [bz,aj];rw [CQ (tr v c) (by omega) (fun y=>!aP y 0 11) false (fun self i y hy => ?_) (fun self=>by simp)]
 ·have:(tr v c).any (fun y=>!aP y 0 11)=false:=by
   rw [List.any_eq_false];intro y hy;rw [show aP y 0 11=true from aC.2 (h.rg y ((uD _ _ _).1 hy))];simp
  rw [this];simp only [Bool.false_eq_true,if_false,aa];rw [aip h];rfl
 ·have hi:=(aY hy).1;simp only [show ((i:Int)<((tr v c).length:Int)) from by omega,decide_true,ai];rw [aK hi,hy,aa,bT,aa,bX (by omega)];cases aP y 0 11<;>rfl
theorem aiq (t:List Int) (ht:∀x,x∈t->0<=x/\x<=11) (hl:t.length<=1048576):∃V,iD t=some (V,())/\V.Pairwise (· < ·)/\(∀x,x∈V↔x∈t)/\V.length<=12:=by
 have hm:maxLen=9223372036854775807:=by decide
 show ∃V,IQ BIG _=_/\_;rw [ahh];refine eD (P:=fun o=>∃V:List Int,o=some (V,())/\V.Pairwise (· < ·)/\(∀x,x∈V↔x∈t)/\V.length<=12) (fun (s:List Int × Int)=>∃i:Nat,s.2=i/\i<=12/\s.1.Pairwise (· < ·)/\(∀x,x∈s.1↔x∈t/\x<i)/\s.1.length<=i) (fun s=>12-s.2.toNat)
  (fun _ (V:List Int)=>V.Pairwise (· < ·)/\(∀x,x∈V↔x∈t)/\V.length<=12) (by simp [BIG]) ⟨0,rfl,by omega,by simp,fun x => ?_,by simp⟩ (fun self s hx hs => ?_) (fun V hV=>⟨V,rfl,hV⟩)
 ·simp only [List.not_mem_nil,false_iff,not_and];intro hx;have:=ht x hx;omega
 obtain ⟨s,j⟩:=s;obtain ⟨i,h1,h2,h3,h4,h5⟩:=hx;simp only at h1 h2 h3 h4 h5 hs ⊢;subst h1;by_cases hi:i<12
 ·simp only [show ((i:Int)<12) from by omega,decide_true,ai];rw [wC t i hl,aa,bX (by omega)];by_cases hin:(i:Int)∈t
  ·rw [ah hin,ai,ah (by simp only [aX,List.length_nil];omega),ai,aa];refine hs _ ⟨i+1,rfl,by omega,?_,fun x => ?_,by simp only [bq,aX,List.length_nil];omega⟩ (by simp;omega)
   ·rw [List.pairwise_append];refine ⟨h3,by simp,fun a ha b hb => ?_⟩;rw [List.mem_singleton] at hb;subst hb;exact ((h4 a).1 ha).2
   ·simp only [List.mem_append,List.mem_singleton];rw [h4];constructor
    ·rintro (⟨g1,g2⟩|rfl)
     ·exact ⟨g1,by omega⟩
     ·exact ⟨hin,by omega⟩
    ·rintro ⟨g1,g2⟩;by_cases hx:x=(i:Int)
     ·exact .inr hx
     ·exact .inl ⟨g1,by omega⟩
  ·rw [au hin,aj,aa];refine hs _ ⟨i+1,rfl,by omega,h3,fun x => ?_,by simp only;omega⟩ (by simp;omega);simp only;rw [h4];constructor
   ·rintro ⟨g1,g2⟩;exact ⟨g1,by omega⟩
   ·rintro ⟨g1,g2⟩;refine ⟨g1,?_⟩;by_cases hx:x=(i:Int)
    ·subst hx;exact absurd g1 hin
    ·omega
 ·simp only [show ¬((i:Int)<12) from by omega,decide_false,aj];have:i=12:=by omega
  subst this;refine ⟨_,rfl,h3,fun x => ?_,h5⟩;rw [h4];exact ⟨fun h=>h.1,fun h=>⟨h,by have:=ht x h;omega⟩⟩
def aN (L:List aD) (k:Int):List Ed:=(L.filter fun x=>x.2.2.2&&decide (k<=x.2.2.1)).map fun x=>(x.1,x.2.1)
theorem afT (L:List aD) (k:Int):(aN L k).length<=L.length:=by
 unfold aN;rw [List.length_map];exact List.length_filter_le _ _
theorem air (n:Int) (L:List aD) (k:Int) (hL:L.length<=1048576):IG ((n,L),k)=some (aN L k,()):=by
 have hm:maxLen=9223372036854775807:=by decide
 show IE BIG _=_;rw [ahc];refine eD (P:=fun o=>o=some (aN L k,())) (fun (s:List Ed × Int)=>∃i:Nat,s.2=i/\i<=L.length/\s.1=aN (L.take i) k) (fun s=>L.length-s.2.toNat)
  (fun _ (V:List Ed)=>V=aN L k) (by simp [BIG];omega) ⟨0,rfl,by omega,rfl⟩ (fun self s hx hs => ?_) (fun V hV=>by rw [hV])
 obtain ⟨s,j⟩:=s;obtain ⟨i,h1,h2,h3⟩:=hx;simp only at h1 h2 h3 hs ⊢;subst h1;by_cases hi:i<L.length
 ·have hle:=afT (L.take i) k;rw [List.length_take] at hle;simp only [show ((i:Int)<(L.length:Int)) from by omega,decide_true,ai];rw [aK hi,aR hi,aa,bX (by omega)];have hn:aN (L.take (i+1)) k=aN (L.take i) k++(if L[i].2.2.2=true/\k<=L[i].2.2.1 then [(L[i].1,L[i].2.1)] else []):=by
   unfold aN;rw [List.take_succ_eq_append_getElem hi,List.filter_append,List.map_append];congr 1;by_cases h1:L[i].2.2.2=true<;>by_cases h2:k<=L[i].2.2.1<;>simp [h1,h2]
  cases ht:L[i].2.2.2 with
  | false=>
   rw [aj];simp only [aa,aj];exact hs _ ⟨i+1,rfl,hi,by simp only;rw [hn,if_neg (fun h=>by rw [ht] at h;cases h.1),List.append_nil,h3]⟩ (by simp;omega)
  | true=>
   rw [ai];simp only [aa];by_cases h2:k<=L[i].2.2.1
   ·rw [ah h2,ai,ah (by rw [h3];simp only [aX,List.length_nil];omega),ai,aa];exact hs _ ⟨i+1,rfl,hi,by simp only;rw [hn,if_pos ⟨ht,h2⟩,h3]⟩ (by simp;omega)
   ·rw [au h2,aj,aa];exact hs _ ⟨i+1,rfl,hi,by simp only;rw [hn,if_neg (fun h=>h2 h.2),List.append_nil,h3]⟩ (by simp;omega)
 ·simp only [show ¬((i:Int)<(L.length:Int)) from by omega,decide_false,aj];have:i=L.length:=by omega
  subst this;exact ⟨_,rfl,by rw [h3,List.take_length]⟩
structure GT (n:Nat) (E:List Ed) (v:Int) (f:FT):Prop where
 nd:(v::f.vs).Nodup
 rg:∀x,x∈v::f.vs->0<=x/\x<n
 rt:RtO (ad E) v (-1) f
 gf:GF (ad E) f v
theorem ais {n:Nat} {E:List Ed} (hE:∀e,e∈E->cZ n e=true) (h1:1<=n) (h2:n<=12) (hes:E.length<=1048576) (r:Int) (hr:0<=r/\r<n) :
  ∃t b,Dm ((n:Int),E,r)=some ((t,b),())/\(b=true->∃f,t=tr r f/\GT n E r f)/\(NoCyc E->b=true):=by
 have hm:maxLen=9223372036854775807:=by decide
 obtain ⟨t,ring,sn,e1,w1,w2,w3⟩:=anI hE h2 hes 64 r (-1) (List.replicate n false) [] (by simp) hr (by rw [gD (List.getElem?_replicate_of_lt (show r.toNat<n by omega))]) (by simp) (by simp) (by simp;omega);have e2:Dm ((n:Int),E,r)=some (if ring=true then ([],false) else (t,true),()):=by
  show Nk BIG _=_;rw [aj6,bT,show aP (n:Int) 1 12=true from aC.2 (by omega),aa];simp only [bz,aj];rw [wr (n:=(n:Int)-1) (by omega) (by omega),bT,show aP r 0 ((n:Int)-1)=true from aC.2 (by omega),aa,aa];simp only [bz,aj];rw [CQ E (by omega) (fun y=>!cZ n y) ([],false) (fun self i y hy => ?_) (fun self=>by simp)]
  ·have:E.any (fun y=>!cZ n y)=false:=by
    rw [List.any_eq_false];intro y hy;rw [hE y hy];simp
   rw [this];simp only [Bool.false_eq_true,if_false,aa];rw [ah (by omega),ai,ah (by omega),ai,dC,e1];cases ring<;>rfl
  ·have hi:=(aY hy).1;simp only [show ((i:Int)<(E.length:Int)) from by omega,decide_true,ai];rw [aK hi,hy,aa,Dz,aa,bX (by omega)];cases cZ n y<;>rfl
 cases ring with
 | true=>
  refine ⟨[],false,e2,fun h=>(by cases h),fun hN => ?_⟩;have:=(w3 ⟨hN,fun x hx _=>gD (List.getElem?_replicate_of_lt hx)⟩).1;cases this
 | false=>
  refine ⟨t,true,e2,fun _ => ?_,fun _=>rfl⟩;obtain ⟨f,rfl,k1,k2,k3,k4,k5⟩:=w2 rfl;exact ⟨f,rfl,k1,fun x hx=>(k2 x hx).1,k4,k5⟩
theorem ait {pa:Int->Int->Prop}:∀(f:FT) (v:Int),(∀w,w∈f.rts->pa w v\/pa v w)->GF pa f v->∀{a b:Int},(a,b)∈f.pr v->pa b a\/pa a b
 | .nil,_,_,_,_,_,h=>by cases h
 | .nd w c s,v,hr,⟨⟨hR,hG⟩,hS⟩,a,b,h=>by
  simp only [FT.pr,List.mem_cons,List.mem_append,Prod.mk.injEq] at h;rcases h with ⟨rfl,rfl⟩|h|h
  ·exact hr _ (List.mem_cons_self ..)
  ·exact ait c w (fun x hx=>((hR.2 x).1 hx).2) hG h
  ·exact ait s v (fun x hx=>hr x (List.mem_cons_of_mem _ hx)) hS h
theorem acZ:∀(f:FT) (v:Int) {z:Int},z∈f.rts->(v,z)∈f.pr v
 | .nil,_,_,h=>by cases h
 | .nd w c s,v,z,h=>by
  simp only [FT.rts,List.mem_cons] at h;simp only [FT.pr,List.mem_cons,List.mem_append];rcases h with rfl|h
  ·exact .inl rfl
  ·exact .inr (.inr (acZ s v h))
theorem XN {pa:Int->Int->Prop}:∀(f:FT) (v:Int),GF pa f v->∀y,y∈f.vs->∀z,(pa z y\/pa y z)->(y,z)∈f.pr v\/(z,y)∈f.pr v
 | .nil,_,_,y,h,_,_=>by cases h
 | .nd w c s,v,⟨⟨hR,hG⟩,hS⟩,y,h,z,hz=>by
  simp only [FT.vs,List.mem_cons,List.mem_append] at h;simp only [FT.pr,List.mem_cons,List.mem_append];rcases h with rfl|h|h
  ·by_cases hzv:z=v
   ·subst hzv;exact .inr (.inl rfl)
   ·exact .inl (.inr (.inl (acZ c y ((hR.2 z).2 ⟨hzv,hz⟩))))
  ·rcases XN c w hG y h z hz with h|h
   ·exact .inl (.inr (.inl h))
   ·exact .inr (.inr (.inl h))
  ·rcases XN s v hS y h z hz with h|h
   ·exact .inl (.inr (.inr h))
   ·exact .inr (.inr (.inr h))
theorem ac0 {pa:Int->Int->Prop}:∀(f:FT) (v:Int),(v::f.vs).Nodup->GF pa f v->∀{p w:Int},(p,w)∈f.pr v->∃c:FT,RtO pa w p c/\GF pa c w/\p∉w::c.vs
 | .nil,_,_,_,_,_,h=>by cases h
 | .nd u c s,v,hn,⟨⟨hR,hG⟩,hS⟩,p,w,h=>by
  have hn':(v::(u::(c.vs++s.vs))).Nodup:=hn;rw [List.nodup_cons,List.nodup_cons,List.nodup_append] at hn';obtain ⟨n1,n2,n3,n4,n5⟩:=hn';simp only [FT.pr,List.mem_cons,List.mem_append,Prod.mk.injEq] at h;rcases h with ⟨rfl,rfl⟩|h|h
  ·refine ⟨c,hR,hG,fun hm=>n1 ?_⟩;rw [List.mem_cons] at hm;rcases hm with hm|hm
   ·rw [hm];exact List.mem_cons_self ..
   ·exact List.mem_cons_of_mem _ (List.mem_append_left _ hm)
  ·exact ac0 c u (List.nodup_cons.2 ⟨fun hm=>n2 (List.mem_append_left _ hm),n3⟩) hG h
  ·exact ac0 s v (List.nodup_cons.2 ⟨fun hm=>n1 (List.mem_cons_of_mem _ (List.mem_append_right _ hm)),n4⟩) hS h
section
variable {n:Nat} {E:List Ed} (hE:∀e,e∈E->cZ n e=true) {v:Int} {f:FT} (h:GT n E v f)
include hE h
theorem GT.con (x:Int):x∈v::f.vs↔Con E v x:=by
 constructor
 ·intro hx;rw [List.mem_cons] at hx;rcases hx with rfl|hx
  ·exact .refl _
  ·refine Td f v (Con E v) (.refl _) (fun a b hab ha => ?_) x hx;have:=ait f v (fun w hw=>((h.rt.2 w).1 hw).2) h.gf hab;have had:ad E a b:=by
    rcases this with h|h
    ·exact PY h
    ·exact h
   exact ha.trans (acX ((PZ hE).2 had))
 ·intro hc;have step:∀y z,y∈v::f.vs->ad E y z->z∈v::f.vs:=by
   intro y z hy hz;rw [List.mem_cons] at hy;rcases hy with rfl|hy
   ·have:=P5 hE hz;exact List.mem_cons_of_mem _ (V7 f ((h.rt.2 z).2 ⟨by omega,.inr hz⟩))
   ·rcases DR f v h.gf y hy z (.inr hz) with h|h
    ·exact List.mem_cons_of_mem _ h
    ·rw [h];exact List.mem_cons_self ..
  induction hc with
  | refl=>exact List.mem_cons_self ..
  | fwd _ he ih=>exact step _ _ ih (.inl he)
  | bwd _ he ih=>exact step _ _ ih (.inr he)
theorem GT.bridge {p w:Int} (hp:(p,w)∈f.pr v):¬Con (mE E (ed p w)) w p:=by
 obtain ⟨c,c1,c2,c3⟩:=ac0 f v h.nd h.gf hp;intro hc;apply c3;have step:∀y z,y∈w::c.vs->ad E y z->ed y z≠ed p w->z∈w::c.vs:=by
  intro y z hy hz hne;rw [List.mem_cons] at hy;rcases hy with rfl|hy
  ·refine List.mem_cons_of_mem _ (V7 c ((c1.2 z).2 ⟨?_,.inr hz⟩));rintro rfl;exact hne (wB _ _)
  ·rcases DR c w c2 y hy z (.inr hz) with h|h
   ·exact List.mem_cons_of_mem _ h
   ·rw [h];exact List.mem_cons_self ..
 have all:∀x,Con (mE E (ed p w)) w x->x∈w::c.vs:=by
  intro x hc;induction hc with
  | refl=>exact List.mem_cons_self ..
  | fwd _ he ih=>
   obtain ⟨h1,h2⟩:=kr.1 he;have:=DN (hE _ h1);refine step _ _ ih (.inl h1) ?_;unfold ed at h2 ⊢;rw [if_pos this.2.1];exact h2
  | bwd _ he ih=>
   obtain ⟨h1,h2⟩:=kr.1 he;have:=DN (hE _ h1);refine step _ _ ih (.inr h1) ?_;rw [wB];unfold ed at h2 ⊢;rw [if_pos this.2.1];exact h2
 exact all p hc
theorem GT.edge {a b:Int} (ha:a∈v::f.vs) (hab:ad E a b):(a,b)∈f.pr v\/(b,a)∈f.pr v:=by
 rw [List.mem_cons] at ha;rcases ha with rfl|ha
 ·have:=P5 hE hab;exact .inl (acZ f a ((h.rt.2 b).2 ⟨by omega,.inr hab⟩))
 ·exact XN f v h.gf a ha b (.inr hab)
omit hE in
theorem GT.trok (h12:n<=12):TrOk v f:=⟨h.nd,fun x hx=>by have:=h.rg x hx;omega⟩
end
theorem aem {n:Nat} {E:List Ed} (hE:∀e,e∈E->cZ n e=true) (h:∀e,e∈E->∃v f,GT n E v f/\e.1∈v::f.vs):NoCyc E:=by
 rintro ⟨a,b⟩ he hc;obtain ⟨v,f,hg,ha⟩:=h _ he;have hlt:=DN (hE _ he);simp only at hc ha hlt;have h1:ed a b=(a,b):=by unfold ed;rw [if_pos hlt.2.1]
 rcases hg.edge hE ha (.inl he) with h|h
 ·refine hg.bridge hE h ?_;rw [h1];exact hc.symm
 ·refine hg.bridge hE h ?_;rw [wB,h1];exact hc
structure FoOk (n:Nat) (E:List Ed) (Fs:List (Int × FT)):Prop where
 gt:∀p,p∈Fs->GT n E p.1 p.2
 mn:∀p,p∈Fs->∀x,x∈p.1::p.2.vs->p.1<=x
 so:Fs.Pairwise (fun p q=>p.1<q.1)
 cv:∀x:Int,0<=x->x<n->∃p,p∈Fs/\x∈p.1::p.2.vs
def uE (Fs:List (Int × FT)):List (List Int):=Fs.map fun p=>tr p.1 p.2
theorem rA {Fs:List (Int × FT)} {i:Nat} {p:Int × FT} (h:Fs[i]?=some p):(uE Fs)[i]?=some (tr p.1 p.2):=by
 unfold uE;rw [List.getElem?_map,h];rfl
theorem Ab (Fs:List (Int × FT)):(uE Fs).length=Fs.length:=by unfold uE;rw [List.length_map]
section
variable {n:Nat} {E:List Ed} (hE:∀e,e∈E->cZ n e=true) {Fs:List (Int × FT)} (h:FoOk n E Fs)
include hE h
theorem FoOk.nocyc:NoCyc E:=aem hE fun e he=>by
 have:=DN (hE e he)
 obtain ⟨p,h1,h2⟩:=h.cv e.1 (by omega) (by omega)
 exact ⟨p.1,p.2,h.gt p h1,h2⟩
theorem FoOk.same {p q:Int × FT} (hp:p∈Fs) (hq:q∈Fs) {x y:Int} (hx:x∈p.1::p.2.vs) (hy:y∈q.1::q.2.vs) (hc:Con E x y):p.1=q.1:=by
 have c1:=((h.gt p hp).con hE x).1 hx;have c2:=((h.gt q hq).con hE y).1 hy;have c3:Con E p.1 q.1:=(c1.trans hc).trans c2.symm;have l1:=h.mn p hp q.1 (((h.gt p hp).con hE _).2 c3);have l2:=h.mn q hq p.1 (((h.gt q hq).con hE _).2 c3.symm);omega
theorem FoOk.idx {i j:Nat} {p q:Int × FT} (hp:Fs[i]?=some p) (hq:Fs[j]?=some q) {x y:Int} (hx:x∈p.1::p.2.vs) (hy:y∈q.1::q.2.vs) (hc:Con E x y):i=j:=by
 have h0:=h.same hE (List.mem_of_getElem? hp) (List.mem_of_getElem? hq) hx hy hc;obtain ⟨hi,rfl⟩:=aY hp;obtain ⟨hj,rfl⟩:=aY hq;by_cases h1:i<j
 ·have:=List.pairwise_iff_getElem.1 h.so i j hi hj h1;omega
 ·by_cases h2:j<i
  ·have:=List.pairwise_iff_getElem.1 h.so j i hj hi h2;omega
  ·omega
omit hE in
theorem FoOk.size:Fs.length<=n:=by
 have:=qE n (Fs.map (·.1)) (by
  have:(Fs.map (·.1)).Pairwise (· < ·):=by rw [List.pairwise_map];exact h.so
  exact this.imp fun h=>by omega) (fun x hx=>by
  obtain ⟨p,hp,rfl⟩:=List.mem_map.1 hx
  exact (h.gt p hp).rg _ (List.mem_cons_self ..))
 rwa [List.length_map] at this
end
theorem wR {n:Nat} (L:List aD) (k:Int) (h1:1<=n) (h2:n<=12) (hL:L.length<=1048576) (hE:∀e,e∈aN L k->cZ n e=true) :
  ∃r b,l6 (((n:Int),L),k)=some ((r.1,r.2,b),())/\(b=true↔NoCyc (aN L k))/\(b=true->∃Fs,r=((n:Int),uE Fs)/\FoOk n (aN L k) Fs):=by
 have hm:maxLen=9223372036854775807:=by decide
 have hel:=afT L k;show ∃r b,Ev BIG _=_/\_;rw [adG,air _ _ _ hL,aa,bT,show aP (n:Int) 1 12=true from aC.2 (by omega),aa];simp only [bz,aj];generalize hEE:aN L k=E at hE hel ⊢;refine eD (x:=(((0:Int),[]),((n:Int),[]),[],(0:Int))) (P:=fun o=>∃(r:Int × List (List Int)) (b:Bool),o=some ((r.1,r.2,b),())/\(b=true↔NoCyc E)/\(b=true->∃Fs,r=((n:Int),uE Fs)/\FoOk n E Fs))
  (fun (s:(Int × List (List Int)) × (Int × List (List Int)) × List Int × Int)=>∃(i:Nat) (Fs:List (Int × FT)),s.2.2.2=(i:Int)/\i<=n/\s.2.1=((n:Int),uE Fs)/\(∀x,x∈s.2.2.1↔∃p,p∈Fs/\x∈p.1::p.2.vs)/\(∀p,p∈Fs->GT n E p.1 p.2/\p.1<i)/\(∀p,p∈Fs->∀x,x∈p.1::p.2.vs->p.1<=x)/\Fs.Pairwise (fun p q=>p.1<q.1)/\(∀x:Int,0<=x->x<i->∃p,p∈Fs/\x∈p.1::p.2.vs)/\Fs.length<=i/\s.2.2.1.length<=25*i)
  (fun s=>n-s.2.2.2.toNat) (fun _ (b:((Int × List (List Int)) × (Int × List (List Int))) ⊕ ((Int × List (List Int)) × Bool))=>(∃d Fs,b = .inl (d,((n:Int),uE Fs))/\FoOk n E Fs)\/(∃r,b = .inr (r,false)/\¬NoCyc E)) (by simp [BIG];omega)
  ⟨0,[],rfl,by omega,rfl,by simp,by simp,by simp,by simp,fun x h1 h2=>by omega,by simp,by simp⟩ (fun self s hx hs => ?_) (fun b hb => ?_)
 ·obtain ⟨dm,fo,dn,j⟩:=s;obtain ⟨i,Fs,k1,k2,k3,k4,k5,k6,k7,k8,k9,k10⟩:=hx;simp only at k1 k2 k3 k4 k5 k6 k7 k8 k9 k10 hs ⊢;subst k1 k3;by_cases hi:i<n
  ·simp only [show ((i:Int)<(n:Int)) from by omega,decide_true,ai];rw [wC dn i (by omega),aa];by_cases hin:(i:Int)∈dn
   ·simp only [ah hin,ai,aa];rw [bX (by omega)];refine hs _ ⟨i+1,Fs,rfl,by omega,rfl,k4,fun p hp=>⟨(k5 p hp).1,by have:=(k5 p hp).2;omega⟩,k6,k7,fun x x1 x2 => ?_,by omega,by simp only;omega⟩ (by simp;omega);by_cases hx:x=(i:Int)
    ·subst hx;exact (k4 _).1 hin
    ·exact k8 x x1 (by omega)
   ·simp only [au hin,aj];obtain ⟨t,b,t1,t2,t3⟩:=ais hE h1 h2 (by omega) (i:Int) (by omega);rw [t1,aa];cases b with
    | false=>
     simp only [ik,ai,aa];refine ⟨_,rfl,.inr ⟨_,rfl,fun hN => ?_⟩⟩;have:=t3 hN;cases this
    | true=>
     obtain ⟨f,rfl,hg⟩:=t2 rfl;have hfl:f.vs.length<=11:=(hg.trok h2).len;simp only [bz,aj];rw [ah (by simp only [Ab,aX,List.length_nil];omega),ai,ah (by rw [uC];omega),ai,aa];simp only;rw [bX (by omega)];have hmem:∀q,q∈Fs++[((i:Int),f)]↔q∈Fs\/q=((i:Int),f):=fun q=>by rw [List.mem_append,List.mem_singleton]
     refine hs _ ⟨i+1,Fs++[((i:Int),f)],rfl,by omega,by simp [uE],fun x => ?_,fun p hp => ?_,fun p hp => ?_,?_,fun x x1 x2 => ?_,by simp only [bq,aX,List.length_nil];omega,by simp only [bq,uC];omega⟩ (by simp;omega)
     ·simp only [List.mem_append];rw [k4,uD];constructor
      ·rintro (⟨p,p1,p2⟩|h)
       ·exact ⟨p,.inl p1,p2⟩
       ·exact ⟨_,.inr (List.mem_singleton.2 rfl),h⟩
      ·rintro ⟨p,p1|p1,p2⟩
       ·exact .inl ⟨p,p1,p2⟩
       ·rw [List.mem_singleton] at p1;subst p1;exact .inr p2
     ·rcases (hmem p).1 hp with hp|rfl
      ·exact ⟨(k5 p hp).1,by have:=(k5 p hp).2;omega⟩
      ·exact ⟨hg,by simp only;omega⟩
     ·rcases (hmem p).1 hp with hp|rfl
      ·exact k6 p hp
      ·intro x hx;simp only at hx ⊢;apply Classical.byContradiction;intro hlt;obtain ⟨q,q1,q2⟩:=k8 x (hg.rg x hx).1 (by omega);have c1:=((k5 q q1).1.con hE x).1 q2;have c2:=(hg.con hE x).1 hx;exact hin ((k4 _).2 ⟨q,q1,((k5 q q1).1.con hE _).2 (c1.trans c2.symm)⟩)
     ·rw [List.pairwise_append];refine ⟨k7,by simp,fun a ha b hb => ?_⟩;rw [List.mem_singleton] at hb;subst hb;exact (k5 a ha).2
     ·by_cases hx:x=(i:Int)
      ·subst hx;exact ⟨_,(hmem _).2 (.inr rfl),List.mem_cons_self ..⟩
      ·obtain ⟨q,q1,q2⟩:=k8 x x1 (by omega);exact ⟨q,(hmem q).2 (.inl q1),q2⟩
  ·simp only [show ¬((i:Int)<(n:Int)) from by omega,decide_false,aj];have:i=n:=by omega
   subst this;exact ⟨_,rfl,.inl ⟨_,Fs,rfl,fun p hp=>(k5 p hp).1,k6,k7,k8⟩⟩
 ·rcases hb with ⟨d,Fs,rfl,hF⟩|⟨r,rfl,hN⟩
  ·exact ⟨((n:Int),uE Fs),true,rfl,⟨fun _=>hF.nocyc hE,fun _=>rfl⟩,fun _=>⟨Fs,rfl,hF⟩⟩
  ·exact ⟨r,false,rfl,⟨(fun h=>by cases h),fun h=>absurd h hN⟩,(fun h=>by cases h)⟩
theorem aqt {V:List Int} {x:Int} (hs:V.Pairwise (· < ·)) (hx:x∈V) (hm:∀y,y∈V->x<=y):V[0]?=some x:=by
 cases V with
 | nil=>cases hx
 | cons y V=>
  rw [List.pairwise_cons] at hs;rw [List.mem_cons] at hx;have h1:=hm y (List.mem_cons_self ..);rcases hx with rfl|hx
  ·rfl
  ·have:=hs.1 x hx;omega
section
variable {n:Nat} {E:List Ed} (hE:∀e,e∈E->cZ n e=true) {Fs:List (Int × FT)} (h:FoOk n E Fs) (h12:n<=12)
include h h12
theorem FoOk.verts {p:Int × FT} (hp:p∈Fs):∃V,iD (tr p.1 p.2)=some (V,())/\V.Pairwise (· < ·)/\(∀x,x∈V↔x∈p.1::p.2.vs)/\V.length=(p.1::p.2.vs).length/\V[0]?=some p.1/\V.length<=12:=by
 have hg:=h.gt p hp;have hl:=(hg.trok h12).len;obtain ⟨V,v1,v2,v3,v4⟩:=aiq (tr p.1 p.2) (fun x hx=>(hg.trok h12).rg x ((uD _ _ _).1 hx)) (by rw [uC];omega);have v5:∀x,x∈V↔x∈p.1::p.2.vs:=fun x=>by rw [v3,uD]
 have vn:V.Nodup:=v2.imp fun h=>by omega
 have l1:=jy V (p.1::p.2.vs) vn fun x hx=>(v5 x).1 hx
 have l2:=jy (p.1::p.2.vs) V hg.nd fun x hx=>(v5 x).2 hx
 exact ⟨V,v1,v2,v5,by omega,aqt v2 ((v5 _).2 (List.mem_cons_self ..)) fun y hy=>h.mn p hp y ((v5 y).1 hy),v4⟩
include hE
theorem aen (h1:1<=n):EA ((n:Int),uE Fs)=some (true,()):=by
 have hm:maxLen=9223372036854775807:=by decide
 have hsz:=h.size;have htl:=Ab Fs;show Ez BIG _=_;rw [adJ,bT,show aP (n:Int) 1 12=true from aC.2 (by omega),aa];simp only [bz,aj];rw [au (by omega),aa];simp only [aj];refine eD (x:=((0:Int),(0:Int))) (P:=fun o=>o=some (true,())) (fun (s:Int × Int)=>∃(i:Nat) (acc:List Int),s.2=(i:Int)/\i<=Fs.length/\s.1=(acc.length:Int)/\acc.Nodup/\(∀x,x∈acc↔∃j:Nat,j<i/\∃p,Fs[j]?=some p/\x∈p.1::p.2.vs))
  (fun s=>Fs.length-s.2.toNat) (fun _ (b:Int ⊕ Bool)=>b = .inl (n:Int)) (by simp [BIG];omega) ⟨0,[],rfl,by omega,rfl,by simp,fun x=>by simp⟩ (fun self s hx hs => ?_) (fun b hb=>by subst hb;simp)
 obtain ⟨al,jj⟩:=s;obtain ⟨i,acc,k1,k2,k3,k4,k5⟩:=hx;simp only at k1 k2 k3 k4 k5 hs ⊢;subst k1 k3;have hrng:∀x,x∈acc->0<=x/\x<n:=fun x hx=>by
  obtain ⟨j,_,p,h2,h3⟩:=(k5 x).1 hx;exact (h.gt p (List.mem_of_getElem? h2)).rg x h3
 have hal:=qE n acc k4 hrng;by_cases hi:i<Fs.length
 ·have hp:=aR hi;generalize hpe:Fs[i]=p at hp;have hpm:=List.mem_of_getElem? hp;have hg:=h.gt p hpm;obtain ⟨V,v1,v2,v3,v4,v5,v6⟩:=h.verts h12 hpm;have hV0:0<V.length:=by rw [v4];simp
  have bi:∀{B:Type} {k:Nat->Option B},bnd (uE Fs).length (i:Int) k=k i:=fun {B k}=>aK (by omega)
  have hti:=rA hp;simp only [show ((i:Int)<((uE Fs).length:Int)) from by omega,decide_true,ai,bi,hti,aa,ak0 (hg.trok h12),bz,aj,v1];have hwl:IntKind.wrap .i64 ((V.length:Int)-1)=((V.length-1:Nat):Int):=by rw [wr (by omega) (by omega)];omega
  have hlast:V[V.length-1]?=some V[V.length-1]:=aR (by omega);have hlr:=hg.rg _ ((v3 _).1 (List.getElem_mem (show V.length-1<V.length by omega)));rw [hwl,aK (by omega),hlast,aa,au (by omega),aj];have hcond:(bif decide ((0:Int)<(i:Int)) then
    bnd (uE Fs).length (IntKind.wrap .i64 ((i:Int)-(1:Int))) fun n12=>
    Option.bind (uE Fs)[n12]? fun y13=>
    Option.bind (iD y13) fun r14=>
    bnd r14.1.length (0:Int) fun n15=>
    Option.bind r14.1[n15]? fun y16=>
    bnd V.length (0:Int) fun n17=>
    Option.bind V[n17]? fun y18=>
    some (decide (y18<=y16))
    else some false)=some false:=by
   by_cases h0:0<i
   ·have hw:IntKind.wrap .i64 ((i:Int)-1)=((i-1:Nat):Int):=by rw [wr (by omega) (by omega)];omega
    have hq:=aR (show i-1<Fs.length by omega);generalize hqe:Fs[i-1]=q at hq;obtain ⟨W,w1,w2,w3,w4,w5,w6⟩:=h.verts h12 (List.mem_of_getElem? hq);have hW0:0<W.length:=by rw [w4];simp
    have hlt:=List.pairwise_iff_getElem.1 h.so (i-1) i (by omega) hi (by omega);rw [hqe,hpe] at hlt;rw [ah (by omega),ai,hw,aK (by omega),rA hq,aa,w1,aa,cO (by omega) (by simp only;omega)];simp only;rw [show Int.toNat 0=0 from rfl,w5,aa,cO (by omega) (by omega),show Int.toNat 0=0 from rfl,v5,aa,au (by omega)]
   ·rw [au (by omega),aj]
  rw [hcond,aa,aj];refine eD (x:=(0:Int)) (P:=fun o=>∃b:Int ⊕ Bool,o=some b/\b = .inl (n:Int)) (fun (s:Int)=>∃j:Nat,s=(j:Int)/\j<=i) (fun s=>i-s.toNat) (fun _ (b:Int ⊕ Bool)=>b = .inl (((acc++(p.1::p.2.vs)).length:Nat):Int)) (by simp [BIG];omega) ⟨0,rfl,by omega⟩ (fun self2 s hx2 hs2 => ?_) (fun b hb => ?_)
  ·obtain ⟨j,rfl,hj⟩:=hx2;by_cases hji:j<i
   ·have hq:=aR (show j<Fs.length by omega);generalize hqe:Fs[j]=q at hq;have htj:=rA hq;have bj:∀{B:Type} {k:Nat->Option B},bnd (uE Fs).length (j:Int) k=k j:=fun {B k}=>aK (by omega)
    have hql:=((h.gt q (List.mem_of_getElem? hq)).trok h12).len;simp only [show ((j:Int)<(i:Int)) from by omega,decide_true,ai,bj,htj,aa];rw [CQ V (by omega) (fun y=>decide (y∈tr q.1 q.2)) false (fun self3 m y hy => ?_) (fun self3=>by simp)]
    ·have hno:V.any (fun y=>decide (y∈tr q.1 q.2))=false:=by
      rw [List.any_eq_false];intro y hy;rw [decide_eq_true_eq,uD];intro hy2;have:=h.idx hE hq hp hy2 ((v3 y).1 hy) (.refl _);omega
     rw [hno];simp only [Bool.false_eq_true,if_false,aa];rw [bX (by omega)];exact hs2 _ ⟨j+1,rfl,by omega⟩ (by simp;omega)
    ·have hm':=(aY hy).1;simp only [show ((m:Int)<(V.length:Int)) from by omega,decide_true,ai];rw [aK hm',hy,aa,wC _ _ (by rw [uC];omega),aa,bX (by omega)];by_cases hy':y∈tr q.1 q.2<;>simp [hy']
   ·simp only [show ¬((j:Int)<(i:Int)) from by omega,decide_false,aj];refine ⟨_,rfl,?_⟩;rw [wr (by omega) (by omega),bq,<-v4];rfl
  ·subst hb;simp only;rw [bX (by omega)];refine hs _ ⟨i+1,acc++(p.1::p.2.vs),rfl,hi,rfl,?_,fun x => ?_⟩ (by simp;omega)
   ·rw [List.nodup_append];refine ⟨k4,hg.nd,fun a ha b hb hab => ?_⟩;subst hab;obtain ⟨j,j1,q,q1,q2⟩:=(k5 a).1 ha;have:=h.idx hE q1 hp q2 hb (.refl _);omega
   ·rw [List.mem_append,k5];constructor
    ·rintro (⟨j,j1,j2⟩|hx)
     ·exact ⟨j,by omega,j2⟩
     ·exact ⟨i,by omega,p,hp,hx⟩
    ·rintro ⟨j,j1,q,q1,q2⟩;by_cases hji:j=i
     ·subst hji;rw [hp] at q1;cases q1;exact .inr q2
     ·exact .inl ⟨j,by omega,q,q1,q2⟩
 ·simp only [show ¬((i:Int)<((uE Fs).length:Int)) from by omega,decide_false,aj];refine ⟨_,rfl,?_⟩;have hin:i=Fs.length:=by omega
  subst hin;have hge:=jy ((List.range n).map fun (x:Nat)=>(x:Int)) acc (Te _ _ List.nodup_range fun a _ b _ h=>by omega) fun x hx=>by
   obtain ⟨y,hy,rfl⟩:=List.mem_map.1 hx;rw [List.mem_range] at hy;obtain ⟨p,p1,p2⟩:=h.cv (y:Int) (by omega) (by omega);obtain ⟨j,hj,hjp⟩:=List.mem_iff_getElem.1 p1;exact (k5 _).2 ⟨j,hj,p,by rw [aR hj,hjp],p2⟩
  rw [List.length_map,List.length_range] at hge;rw [show acc.length=n from by omega]
theorem nN (h1:1<=n) (x:Int) (h0:0<=x) (hx:x<n):∃(j:Nat) (p:Int × FT),Fs[j]?=some p/\x∈p.1::p.2.vs/\j_ (((n:Int),uE Fs),x)=some ((j:Int),()):=by
 have hm:maxLen=9223372036854775807:=by decide
 have hsz:=h.size;have htl:=Ab Fs;show ∃(j:Nat) (p:Int × FT),_/\_/\Nt BIG _=_;rw [aj_,aen hE h h12 h1,aa];simp only [bz,aj];refine eD (x:=(0:Int)) (P:=fun o=>∃(j:Nat) (p:Int × FT),Fs[j]?=some p/\x∈p.1::p.2.vs/\o=some ((j:Int),())) (fun (s:Int)=>∃i:Nat,s=(i:Int)/\i<=Fs.length/\∀j p,j<i->Fs[j]?=some p->x∉p.1::p.2.vs) (fun s=>Fs.length-s.toNat)
  (fun _ (b:Unit ⊕ Int)=>∃(j:Nat) (p:Int × FT),Fs[j]?=some p/\x∈p.1::p.2.vs/\b = .inr (j:Int)) (by simp [BIG];omega) ⟨0,rfl,by omega,fun j p hj=>by omega⟩ (fun self s hx' hs => ?_) (fun b hb => ?_)
 ·obtain ⟨i,rfl,k2,k3⟩:=hx';by_cases hi:i<Fs.length
  ·have hp:=aR hi;generalize hpe:Fs[i]=p at hp;have hl:=((h.gt p (List.mem_of_getElem? hp)).trok h12).len;simp only [show ((i:Int)<((uE Fs).length:Int)) from by omega,decide_true,ai];rw [aK (by omega),rA hp,aa,wC _ _ (by rw [uC];omega),aa,bX (by omega)];by_cases hin:x∈tr p.1 p.2
   ·simp only [ah hin,ai];exact ⟨_,rfl,i,p,hp,(uD _ _ _).1 hin,rfl⟩
   ·simp only [au hin,aj];refine hs _ ⟨i+1,rfl,hi,fun j q hj hq => ?_⟩ (by simp;omega);by_cases hji:j=i
    ·subst hji;rw [hp] at hq;cases hq;rw [<-uD];exact hin
    ·exact k3 j q (by omega) hq
  ·exfalso;obtain ⟨p,p1,p2⟩:=h.cv x h0 hx;obtain ⟨j,hj,hjp⟩:=List.mem_iff_getElem.1 p1;exact k3 j p (by omega) (by rw [aR hj,hjp]) p2
 ·obtain ⟨j,p,h1,h2,rfl⟩:=hb;exact ⟨j,p,h1,h2,rfl⟩
end
def gE (L:List aD):List Ed:=L.map fun x=>(x.1,x.2.1)
def LG (L:List aD):List Ed:=(L.filter fun x=>x.2.2.2).map fun x=>(x.1,x.2.1)
def bI (n:Nat) (L:List aD) (k:Int) (v:Int):Int:=(labs n (aN L k)).getD v.toNat 0
def cmp (n:Nat) (L:List aD) (k:Int) (v:Int):Nat:=(labs n (aN L k)).count (bI n L k v)
structure WOk (n:Nat) (L:List aD):Prop where
 gr:iq n (gE L)=true
 lv:∀x,x∈L->0<=x.2.2.1/\x.2.2.1<=4
 nc:NoCyc (aN L 0)
 un:∀x,x∈L->x.2.2.2=false->bI n L x.2.2.1 x.1=bI n L x.2.2.1 x.2.1
 sz:∀k:Nat,1<=k->k<=4->∀e,e∈aN L k->cmp n L k e.1<=n / 2 ^ k
theorem P7 (L:List aD) (k:Int):(aN L k).Sublist (gE L):=List.Sublist.map _ List.filter_sublist
theorem qF {L:List aD} {j k:Int} (h:j<=k):∀e,e∈aN L k->e∈aN L j:=by
 intro e he;unfold aN at he ⊢;rw [List.mem_map] at he ⊢;obtain ⟨x,h1,h2⟩:=he;refine ⟨x,?_,h2⟩;simp only [List.mem_filter,aG,decide_eq_true_eq] at h1 ⊢;exact ⟨h1.1,h1.2.1,by omega⟩
theorem aq9 {L:List aD} (h:∀x,x∈L->0<=x.2.2.1/\x.2.2.1<=4):LG L=aN L 0:=by
 unfold LG aN;congr 1;apply List.filter_congr;intro x hx;rw [ah (h x hx).1,Bool.and_true]
section
variable {n:Nat} {L:List aD} (hg:iq n (gE L)=true)
include hg
theorem O5:1<=n/\n<=12:=by
 unfold iq at hg;rw [aG,aC] at hg;omega
theorem ji:(∀e,e∈gE L->cZ n e=true)/\(gE L).Nodup/\L.length<=66:=by
 unfold iq at hg;rw [aG] at hg;obtain ⟨h1,h2,h3⟩:=jL hg.2;refine ⟨h1,h2.imp fun {a b} h => ?_,by unfold gE at h3;rwa [List.length_map] at h3⟩;rintro rfl;unfold lsB at h;simp at h
theorem KC (k:Int):(∀e,e∈aN L k->cZ n e=true)/\(aN L k).Nodup/\(aN L k).length<=66:=by
 obtain ⟨h1,h2,h3⟩:=ji hg;refine ⟨fun e he=>h1 e ((P7 L k).subset he),h2.sublist (P7 L k),?_⟩;have:=(P7 L k).length_le;unfold gE at this;rw [List.length_map] at this;omega
theorem jG (k:Int):kR n (aN L k):=fun e he=>by
 have:=eB ((KC hg k).1 e he)
 exact ⟨this.1,this.2.1,this.2.2.1,this.2.2.2.1⟩
theorem iQ (k:Int) {u v:Int} (hu:0<=u/\u<n) (hv:0<=v/\v<n):bI n L k u=bI n L k v↔Con (aN L k) u v:=by
 have hl:=iP (jG hg k);have:=hl.iff (getD_at (show u.toNat<(labs n (aN L k)).length by rw [dD];omega)) (getD_at (show v.toNat<(labs n (aN L k)).length by rw [dD];omega));rw [Int.toNat_of_nonneg hu.1,Int.toNat_of_nonneg hv.1] at this;exact this
end
section
variable {n:Nat} {L:List aD} (hg:iq n (gE L)=true)
include hg
end
theorem ak1 (l:List Int) (c:Int):l.count c=((List.range l.length).filter fun i=>decide (l.getD i 0=c)).length:=by
 have h:l=(List.range l.length).map (fun i=>l.getD i 0):=by
  apply List.ext_getElem
  ·simp
  ·intro i h1 h2;rw [List.getElem_map,List.getElem_range,bN,aR h1];rfl
 conv=>lhs;rw [h]
 rw [List.count,List.countP_map,List.countP_eq_length_filter];congr 1
section
variable {n:Nat} {L:List aD} (hg:iq n (gE L)=true)
include hg
theorem KD {k:Int} {Fs:List (Int × FT)} (hF:FoOk n (aN L k) Fs) {p:Int × FT} (hp:p∈Fs):(p.1::p.2.vs).length=cmp n L k p.1:=by
 have hE:=(KC hg k).1;have hG:=hF.gt p hp;have hp0:=hG.rg p.1 (List.mem_cons_self ..);unfold cmp;rw [ak1,dD];have hm:∀x:Int,x∈p.1::p.2.vs↔x∈((List.range n).filter fun i=>decide ((labs n (aN L k)).getD i 0=bI n L k p.1)).map fun (i:Nat)=>(i:Int):=by
  intro x;rw [List.mem_map];constructor
  ·intro hx;have hr:=hG.rg x hx;refine ⟨x.toNat,?_,by omega⟩;rw [List.mem_filter,List.mem_range,decide_eq_true_eq];refine ⟨by omega,?_⟩;exact (iQ hg k hr hp0).2 ((hG.con hE x).1 hx).symm
  ·rintro ⟨y,hy,rfl⟩;rw [List.mem_filter,List.mem_range,decide_eq_true_eq] at hy;refine (hG.con hE _).2 ?_;have:bI n L k (y:Int)=bI n L k p.1:=by
    unfold bI;rw [dC];exact hy.2
   exact ((iQ hg k (by omega) hp0).1 this).symm
 have hn2:(((List.range n).filter fun i=>decide ((labs n (aN L k)).getD i 0=bI n L k p.1)).map fun (i:Nat)=>(i:Int)).Nodup:=
  Te _ _ ((List.nodup_range (n:=n)).sublist List.filter_sublist) fun a _ b _ h=>by omega
 have l1:=jy _ _ hG.nd fun x hx=>(hm x).1 hx
 have l2:=jy _ _ hn2 fun x hx=>(hm x).2 hx
 rw [List.length_map] at l1 l2;omega
theorem KE {k:Int} {u v:Int} (hu:0<=u/\u<n) (hv:0<=v/\v<n) (h:Con (aN L k) u v):cmp n L k u=cmp n L k v:=by
 unfold cmp;rw [(iQ hg k hu hv).2 h]
theorem ak2 {k:Int} {Fs:List (Int × FT)} (hF:FoOk n (aN L k) Fs) (B:Nat):(∀p,p∈Fs->1<(p.1::p.2.vs).length->(p.1::p.2.vs).length<=B)↔∀e,e∈aN L k->cmp n L k e.1<=B:=by
 have hE:=(KC hg k).1;constructor
 ·intro h e he;have hr:=eB (hE e he);obtain ⟨p,hp,hx⟩:=hF.cv e.1 hr.1 hr.2.1;have hG:=hF.gt p hp;have hc:=(hG.con hE e.1).1 hx;have hx2:e.2∈p.1::p.2.vs:=(hG.con hE e.2).2 (.fwd hc he);have hne:e.1≠e.2:=by omega
  have hlen:1<(p.1::p.2.vs).length:=by
   have:=jy [e.1,e.2] (p.1::p.2.vs) (by simp [hne]) (fun y hy=>by
    simp only [List.mem_cons,List.not_mem_nil,or_false] at hy
    rcases hy with rfl|rfl
    ·exact hx
    ·exact hx2)
   simp only [aX,List.length_nil] at this ⊢;omega
  have:=h p hp hlen;rw [KD hg hF hp,KE hg (hG.rg _ (List.mem_cons_self ..)) ⟨hr.1,hr.2.1⟩ hc] at this;exact this
 ·intro h p hp hlen;have hG:=hF.gt p hp;have hp0:=hG.rg p.1 (List.mem_cons_self ..);obtain ⟨u,hu⟩:∃u,u∈p.2.vs:=by
   cases hv:p.2.vs with
   | nil=>rw [hv] at hlen;simp at hlen
   | cons u _=>exact ⟨u,List.mem_cons_self ..⟩
  have hne:u≠p.1:=by
   rintro rfl;exact (List.nodup_cons.1 hG.nd).1 hu
  have hc:=(hG.con hE u).1 (List.mem_cons_of_mem _ hu);obtain ⟨x,y,d1,d2,d3⟩:=acA (D:=fun z=>z=p.1) hc rfl hne;subst d1;rw [KD hg hF hp];rcases d3 with d3|d3
  ·exact h _ d3
  ·have hr:=eB (hE _ d3);simp only at hr;rw [KE hg hp0 ⟨hr.1,hr.2.1⟩ (.bwd (.refl _) d3)];exact h _ d3
def aiu (n:Nat) (L:List aD) (k:Nat):Prop:=NoCyc (aN L k)/\(∀e,e∈aN L k->cmp n L k e.1<=n / 2 ^ k)/\∀x,x∈L->x.2.2.2=false->x.2.2.1=k->bI n L k x.1=bI n L k x.2.1
theorem afU (hlv:∀x,x∈L->0<=x.2.2.1/\x.2.2.1<=4):WOk n L↔∀k:Nat,k<5->aiu n L k:=by
 constructor
 ·intro h k hk;refine ⟨h.nc.sub (qF (by omega)),?_,fun x hx ht hl => ?_⟩
  ·by_cases h0:k=0
   ·subst h0;intro e he;have:cmp n L ((0:Nat):Int) e.1<=(labs n (aN L ((0:Nat):Int))).length:=List.count_le_length;rw [dD] at this;simpa using this
   ·exact h.sz k (by omega) (by omega)
  ·have:=h.un x hx ht;rw [hl] at this;exact this
 ·intro h;refine ⟨hg,hlv,(h 0 (by omega)).1,fun x hx ht => ?_,fun k k1 k2=>(h k (by omega)).2.1⟩;have hb:=hlv x hx;obtain ⟨j,hj⟩:∃j:Nat,x.2.2.1=(j:Int):=⟨x.2.2.1.toNat,by omega⟩
  rw [hj];exact (h j (by omega)).2.2 x hx ht hj
end
theorem KF (n:Int) (L:List aD) (hL:L.length<=1048576):∃b,vG (n,L)=some (b,())/\(b=true↔0<=n/\WOk n.toNat L):=by
 have hm:maxLen=9223372036854775807:=by decide
 show ∃b,Sr BIG _=_/\_;have hG:jg (n,L)=some ((n,gE L),()):=zW n L hL;rw [al6,hG,aa,Kt _ _ (by unfold gE;rw [List.length_map];exact hL),aa];by_cases hg:iq n (gE L)=true;case neg=>
  rw [show iq n (gE L)=false by simpa using hg];simp only [ik,ai,aa];refine ⟨false,rfl,⟨(fun h=>by cases h),fun ⟨h1,h2⟩ => ?_⟩⟩;have:=h2.gr;rw [Int.toNat_of_nonneg h1] at this;exact absurd this hg
 obtain ⟨m,rfl⟩:∃m:Nat,n=(m:Int):=by
  have:1<=n:=by
   have h:=hg;unfold iq at h;rw [aG,aC] at h;omega
  exact ⟨n.toNat,by omega⟩
 rw [hg,dC];obtain ⟨h1,h12⟩:=O5 hg;obtain ⟨hgE,hgn,hL6⟩:=ji hg;simp only [bz,aj];rw [CQ L (by omega) (fun x=>!aP x.2.2.1 0 4) false (fun self i y hy => ?_) (fun self=>by simp)]
 ·by_cases hA:L.any (fun x=>!aP x.2.2.1 0 4)=true
  ·rw [if_pos hA];refine ⟨false,rfl,⟨(fun h=>by cases h),fun ⟨_,h2⟩ => ?_⟩⟩;obtain ⟨x,hx,hp⟩:=List.any_eq_true.1 hA;rw [show aP x.2.2.1 0 4=true from aC.2 (h2.lv x hx)] at hp;simp at hp
  ·rw [if_neg hA,aa];have hlv:∀x,x∈L->0<=x.2.2.1/\x.2.2.1<=4:=by
    intro x hx;have hp:¬(!aP x.2.2.1 0 4)=true:=fun h=>hA (List.any_eq_true.2 ⟨x,hx,h⟩)
    cases hb:aP x.2.2.1 0 4 with
    | true=>exact aC.1 hb
    | false=>rw [hb] at hp;simp at hp
   simp only;refine eD (x:=((m:Int),(0:Int))) (P:=fun o=>∃b,o=some (b,())/\(b=true↔0<=(m:Int)/\WOk m L)) (fun (s:Int × Int)=>∃k:Nat,s.2=(k:Int)/\k<=5/\s.1=((m / 2 ^ k:Nat):Int)/\∀j:Nat,j<k->aiu m L j) (fun s=>5-s.2.toNat)
    (fun _ (b:Unit ⊕ Bool)=>(b = .inl ()/\∀k:Nat,k<5->aiu m L k)\/(b = .inr false/\¬∀k:Nat,k<5->aiu m L k)) (by simp [BIG]) ⟨0,rfl,by omega,by simp,fun j h=>by omega⟩ (fun self s hx hs => ?_) (fun b hb => ?_)
   ·obtain ⟨mo,kk⟩:=s;obtain ⟨k,k1,k2,k3,k4⟩:=hx;simp only at k1 k2 k3 k4 hs ⊢;subst k1 k3;by_cases hk:k<=4
    ·obtain ⟨hE,hEn,hEl⟩:=KC hg (k:Int);obtain ⟨r,b,r1,r2,r3⟩:=wR (n:=m) L (k:Int) h1 h12 hL hE;rw [ah (by omega),ai,r1,aa];cases b with
     | false=>
      simp only [ik,ai,aa];refine ⟨_,rfl,.inr ⟨rfl,fun h => ?_⟩⟩;have:=r2.2 (h k (by omega)).1;cases this
     | true=>
      obtain ⟨Fs,rfl,hF⟩:=r3 rfl;have htl:=Ab Fs;have hsz:=hF.size;have hnc:=r2.1 rfl;simp only [bz,aj];rw [CQ Fs (by omega) (fun p=>decide (1<(p.1::p.2.vs).length)&&decide (m / 2 ^ k<(p.1::p.2.vs).length)) false (fun self2 i y hy => ?_) (fun self2=>by simp [htl])]
      ·by_cases hT:Fs.any (fun p=>decide (1<(p.1::p.2.vs).length)&&decide (m / 2 ^ k<(p.1::p.2.vs).length))=true
       ·rw [if_pos hT];refine ⟨_,rfl,.inr ⟨rfl,fun h => ?_⟩⟩;obtain ⟨p,hp,hq⟩:=List.any_eq_true.1 hT;rw [aG,decide_eq_true_eq,decide_eq_true_eq] at hq;have:=(ak2 hg hF _).2 (h k (by omega)).2.1 p hp hq.1;omega
       ·rw [if_neg hT,aa];have hszk:=(ak2 hg hF (m / 2 ^ k)).1 fun p hp hq=>by
         apply Classical.byContradiction;intro hlt;exact hT (List.any_eq_true.2 ⟨p,hp,by rw [aG,decide_eq_true_eq,decide_eq_true_eq];omega⟩)
        simp only;rw [CQ L (by omega) (fun x=>!x.2.2.2&&(decide (x.2.2.1=(k:Int)) && !decide (bI m L k x.1=bI m L k x.2.1))) false (fun self3 i y hy => ?_) (fun self3=>by simp)]
        ·by_cases hU:L.any (fun x=>!x.2.2.2&&(decide (x.2.2.1=(k:Int)) && !decide (bI m L k x.1=bI m L k x.2.1)))=true
         ·rw [if_pos hU];refine ⟨_,rfl,.inr ⟨rfl,fun h => ?_⟩⟩;obtain ⟨x,hx,hq⟩:=List.any_eq_true.1 hU;simp only [aG,Bool.not_eq_true',decide_eq_true_eq,decide_eq_false_iff_not] at hq;exact hq.2.2 ((h k (by omega)).2.2 x hx hq.1 hq.2.1)
         ·rw [if_neg hU,aa];simp only;rw [au (by omega),aj,aa];have hdiv:IntKind.wrap .i64 (Int.tdiv ((m / 2 ^ k:Nat):Int) 2)=((m / 2 ^ (k+1):Nat):Int):=by
           have h0:m / 2 ^ k<=m:=Nat.div_le_self ..;have h2:Int.tdiv ((m / 2 ^ k:Nat):Int) 2=((m / 2 ^ (k+1):Nat):Int):=by
            rw [Nat.pow_succ,<-Nat.div_div_eq_div_mul];rfl
           have h3:m / 2 ^ (k+1)<=m:=Nat.div_le_self ..;have h4:(0:Int)<=((m / 2 ^ (k+1):Nat):Int):=Int.natCast_nonneg _;rw [h2,wr (by omega) (by omega)]
          simp only;rw [hdiv,bX (by omega)];refine hs _ ⟨k+1,rfl,by omega,rfl,fun j hj => ?_⟩ (by simp;omega);by_cases hjk:j=k
          ·subst hjk;refine ⟨hnc,hszk,fun x hx ht hl => ?_⟩;apply Classical.byContradiction;intro hne;refine hU (List.any_eq_true.2 ⟨x,hx,?_⟩);rw [ht,ah hl,au hne];rfl
          ·exact k4 j (by omega)
        ·have hi:=(aY hy).1;have hye:=eB (hgE (y.1,y.2.1) (List.mem_map.2 ⟨y,List.mem_of_getElem? hy,rfl⟩));simp only at hye;obtain ⟨ja,pa,a1,a2,a3⟩:=nN hE hF h12 h1 y.1 hye.1 hye.2.1;obtain ⟨jb,pb,b1,b2,b3⟩:=nN hE hF h12 h1 y.2.1 hye.2.2.1 hye.2.2.2.1;have hiff:((ja:Int)=(jb:Int))↔bI m L k y.1=bI m L k y.2.1:=by
          rw [iQ hg (k:Int) ⟨hye.1,hye.2.1⟩ ⟨hye.2.2.1,hye.2.2.2.1⟩];constructor
          ·intro h;have:ja=jb:=by omega
           subst this;rw [a1,aF] at b1;subst b1;have hG:=hF.gt pa (List.mem_of_getElem? a1);exact ((hG.con hE _).1 a2).symm.trans ((hG.con hE _).1 b2)
          ·intro h;have:=hF.idx hE a1 b1 a2 b2 h;omega
         simp only [show ((i:Int)<(L.length:Int)) from by omega,decide_true,ai];rw [aK hi,hy,aa,bX (by omega)];cases ht:y.2.2.2 with
         | true=>rfl
         | false=>
          simp only [ik,ai,Bool.true_and];by_cases hl:y.2.2.1=(k:Int)
          ·rw [ah hl,ai,a3,aa,b3,aa,aa];by_cases hq:bI m L k y.1=bI m L k y.2.1
           ·rw [ah hq,ah (hiff.2 hq)];rfl
           ·rw [au hq,au (fun h=>hq (hiff.1 h))];rfl
          ·rw [au hl,aj];rfl
      ·have hi:=(aY hy).1;obtain ⟨V,v1,_,_,v4,_,v6⟩:=hF.verts h12 (List.mem_of_getElem? hy);rw [ah (by omega),ai,aK (by omega),rA hy,aa,v1,aa,bX (by omega)];simp only;rw [<-v4];by_cases c1:1<V.length
       ·rw [ah (show ((1:Int)<(V.length:Int)) by omega),ah c1,ai,aa,Bool.true_and];by_cases c2:m / 2 ^ k<V.length
        ·rw [ah (by omega),ah c2];rfl
        ·rw [au (by omega),au c2];rfl
       ·rw [au (show ¬((1:Int)<(V.length:Int)) by omega),au c1];rfl
    ·rw [au (by omega),aj];exact ⟨_,rfl,.inl ⟨rfl,fun j hj=>k4 j (by omega)⟩⟩
   ·rcases hb with ⟨rfl,h⟩|⟨rfl,h⟩
    ·exact ⟨true,rfl,⟨fun _=>⟨by omega,(afU hg hlv).2 h⟩,fun _=>rfl⟩⟩
    ·exact ⟨false,rfl,⟨(fun h=>by cases h),fun ⟨_,h2⟩=>absurd ((afU hg hlv).1 h2) h⟩⟩
 ·have hi:=(aY hy).1;simp only [show ((i:Int)<(L.length:Int)) from by omega,decide_true,ai];rw [aK hi,hy,aa,bT,aa,bX (by omega)];cases aP y.2.2.1 0 4<;>rfl
theorem O6 (n:Nat) (L:List aD) (hL:L.length<=1048576):∃V,nE ((n:Int),L)=some (V,())/\(WOk n L->V=labs n (aN L 0))/\(¬WOk n L->V=[]):=by
 have hm:maxLen=9223372036854775807:=by decide
 obtain ⟨b,b1,b2⟩:=KF n L hL;rw [dC] at b2;show ∃V,Bq BIG _=_/\_;rw [abY,b1,aa];cases b with
 | false=>exact ⟨[],rfl,fun h=>(by have:=b2.2 ⟨by omega,h⟩;cases this),fun _=>rfl⟩
 | true=>
  have h:=(b2.1 rfl).2;have hg:=h.gr;obtain ⟨h1,h12⟩:=O5 hg;obtain ⟨hE,hEn,hEl⟩:=KC hg 0;obtain ⟨r,b',r1,r2,r3⟩:=wR (n:=n) L 0 h1 h12 hL hE;obtain ⟨Fs,rfl,hF⟩:=r3 (r2.2 h.nc);have hll:=dD n (aN L 0);have hlab:=iP (jG hg 0);refine ⟨labs n (aN L 0),?_,fun _=>rfl,fun hn=>absurd h hn⟩;simp only [bz,aj];rw [r1,aa];simp only;refine eD (x:=([],(0:Int))) (P:=fun o=>o=some (labs n (aN L 0),())) (fun (s:List Int × Int)=>∃i:Nat,s.2=i/\i<=n/\s.1=(labs n (aN L 0)).take i) (fun s=>n-s.2.toNat)
   (fun _ (V:List Int)=>V=labs n (aN L 0)) (by simp [BIG];omega) ⟨0,rfl,by omega,by simp⟩ (fun self s hx hs => ?_) (fun V hV=>by rw [hV])
  obtain ⟨s,j⟩:=s;obtain ⟨i,k1,k2,k3⟩:=hx;simp only at k1 k2 k3 hs ⊢;subst k1 k3;by_cases hi:i<n
  ·obtain ⟨j,p,p1,p2,p3⟩:=nN hE hF h12 h1 (i:Int) (by omega) (by omega);have hjl:=(aY p1).1;have hpm:=List.mem_of_getElem? p1;have hG:=hF.gt p hpm;obtain ⟨V,v1,_,_,v4,v5,v6⟩:=hF.verts h12 hpm;have htl:=Ab Fs;rw [ah (by omega),ai,p3,aa,aK (by omega),rA p1,aa,v1,aa];have hV0:0<V.length:=by rw [v4];simp
   rw [cO (by omega) (by simp only;omega),show Int.toNat 0=0 from rfl];simp only;rw [v5,aa,ah (by simp only [List.length_take,aX,List.length_nil];omega),ai,bX (by omega)];have hgi:=aR (show i<(labs n (aN L 0)).length by omega);have hmin:=hlab.2 i _ hgi;have hc:Con (aN L 0) i p.1:=((hG.con hE _).1 p2).symm;have e1:(labs n (aN L 0))[i]=p.1:=by
    have l1:=hmin.2.2 p.1 (hG.rg _ (List.mem_cons_self ..)).1 hc;have l2:=hF.mn p hpm _ ((hG.con hE _).2 (hc.symm.trans hmin.1));omega
   refine hs _ ⟨i+1,rfl,by omega,?_⟩ (by simp;omega);simp only;rw [List.take_succ_eq_append_getElem (by omega),e1]
  ·rw [au (by omega),aj];have:i=n:=by omega
   subst this;exact ⟨_,rfl,by rw [List.take_of_length_le (by omega)]⟩
theorem ak3:∀(k v:Nat) (R:List UInt8),v<128 ^ (k+1)->dec (k+1) (vF k v++R)=some (v,(vF k v).length)
 | 0,v,R,h=>by
  have hv:v<128:=by simpa using h
  show dec 1 (bY (v:Int)::R)=_
  unfold dec
  rw [xC (by omega),if_pos hv]
  rfl
 | k+1,v,R,h=>by
  unfold vF
  by_cases hv:v<=127
  ·rw [if_pos hv]
   show dec (k+1+1) (bY (v:Int)::R)=_
   unfold dec
   rw [xC (by omega),if_pos (by omega)]
   rfl
  ·rw [if_neg hv]
   show dec (k+1+1) (bY ((v % 128+128:Nat):Int)::(vF k (v / 128)++R))=_
   have hd:v / 128<128 ^ (k+1):=by
    rw [Nat.div_lt_iff_lt_mul (by omega)];rw [Nat.pow_succ] at h;exact h
   have ih:=ak3 k (v / 128) R hd
   unfold dec
   rw [xC (by omega),if_neg (by omega),ih]
   simp only [Option.map_some,aX,aF,Prod.mk.injEq,and_true]
   omega
theorem aqu {v:Nat} (hv:v<=1000000000) (R:List UInt8):GD (vB v++R)=some (v,(vB v).length):=by
 unfold GD;rw [CK (by omega),ak3 4 v R (by omega)];simp only;rw [if_pos];rw [CK (by omega)];exact ⟨hv,by rw [List.take_left]⟩
theorem uF {T A R:List UInt8} {v:Nat} (hv:v<=1000000000) (hT:T=A++(vB v++R)):nm T (A.length,false)=((v:Int),(A.length+(vB v).length,false)):=by
 unfold nm;simp only [Bool.false_eq_true,if_false];rw [hT,List.drop_left,aqu hv]
theorem DT {T A R:List UInt8} {b:UInt8} (hT:T=A++(b::R)):on T (A.length,false)=((b.toNat:Int),(A.length+1,false)):=by
 unfold on;simp only [Bool.false_eq_true,if_false];rw [hT,List.getElem?_append_right (Nat.le_refl _),Nat.sub_self];rfl
theorem P8 {x:Int} (h:0<=x/\x<=255):((bY x).toNat:Int)=x:=by
 obtain ⟨y,rfl⟩:∃y:Nat,x=(y:Int):=⟨x.toNat,by omega⟩
 rw [xC (by omega)]
theorem ac1:∀(es:List Ed) {T A R:List UInt8} (out:List Ed),(∀e,e∈es->(0<=e.1/\e.1<=255)/\(0<=e.2/\e.2<=255))->T=A++(es.flatMap e2++R) ->
  jv T es.length (A.length,false) out=((A.length+2*es.length,false),out++es)
 | [],T,A,R,out,_,_=>by simp [jv]
 | e::es,T,A,R,out,he,hT=>by
  have h0:=he e (List.mem_cons_self ..);have hT1:T=A++(bY e.1::(bY e.2::(es.flatMap e2++R))):=by rw [hT];simp [e2]
  have o1:=DT hT1;have hT2:T=(A++[bY e.1])++(bY e.2::(es.flatMap e2++R)):=by rw [hT1];simp
  have o2:=DT hT2;have hT3:T=(A++[bY e.1]++[bY e.2])++(es.flatMap e2++R):=by rw [hT1];simp
  have ih:=ac1 es (A:=A++[bY e.1]++[bY e.2]) (out++[e]) (fun x hx=>he x (List.mem_cons_of_mem _ hx)) hT3;rw [P8 h0.1] at o1;rw [P8 h0.2] at o2;simp only [bq,aX,List.length_nil] at o2 ih;show (if (A.length,false).2 then _ else _)=_;simp only [Bool.false_eq_true,if_false];rw [o1];simp only;rw [o2];simp only;rw [ih];simp only [List.append_assoc,List.singleton_append,aX];congr 2;omega
theorem ak4:∀(L:List Int) {T A R:List UInt8} (out:List Int),(∀x,x∈L->0<=x/\x<=255)->T=A++(L.map bY++R)->nM T L.length (A.length,false) out=((A.length+L.length,false),out++L)
 | [],T,A,R,out,_,_=>by simp [nM]
 | x::L,T,A,R,out,hx,hT=>by
  have h0:=hx x (List.mem_cons_self ..);have hT1:T=A++(bY x::(L.map bY++R)):=by rw [hT];simp
  have o1:=DT hT1;rw [P8 h0] at o1;have hT2:T=(A++[bY x])++(L.map bY++R):=by rw [hT1];simp
  have ih:=ak4 L (A:=A++[bY x]) (out++[x]) (fun y hy=>hx y (List.mem_cons_of_mem _ hy)) hT2;simp only [bq,aX,List.length_nil] at ih;show nM T L.length (on T (A.length,false)).2 (out++[(on T (A.length,false)).1])=_;rw [o1];simp only;rw [ih];simp only [List.append_assoc,List.singleton_append,aX];congr 2;omega
theorem afV {n:Int} {es:List Ed} (h:jr n es=true) (hn:n<=12):∀e,e∈es->(0<=e.1/\e.1<=255)/\(0<=e.2/\e.2<=255):=fun e he=>by
 have:=(jL h).1 e he
 simp only [cZ,aG,aC,decide_eq_true_eq] at this
 omega
theorem aqv {n:Int} {o:kg} (h:fw n o=true):lV n (oT o)=some o:=by
 obtain ⟨a1,a2,a3,a4,a5,a6,a7,a8,a9⟩:=rq h;have hl:=dF a9;obtain ⟨num,op,es,v⟩:=o;simp only at a3 a4 a5 a6 a7 a8 a9 hl;generalize hT:oT (num,op,es,v)=T;have hT0:T=[]++(vB num.toNat++([bY op]++(vB v.toNat++(vB es.length++(es.flatMap e2++[]))))):=by
  rw [<-hT];simp [oT,eT]
 have e0:q0 T=(num,((vB num.toNat).length,false)):=by
  have:=uF (T:=T) (A:=[]) (v:=num.toNat) (by omega) hT0;simp only [List.length_nil,Nat.zero_add] at this;rw [show ((num.toNat:Nat):Int)=num from by omega] at this;exact this
 have hT1:T=vB num.toNat++(bY op::(vB v.toNat++(vB es.length++(es.flatMap e2++[])))):=by rw [hT0];simp
 have e1:q1 T=(op,((vB num.toNat).length+1,false)):=by
  show on T (q0 T).2=_;rw [e0];have:=DT hT1;rw [P8 (by omega)] at this;exact this
 have hT2:T=(vB num.toNat++[bY op])++(vB v.toNat++(vB es.length++(es.flatMap e2++[]))):=by rw [hT1];simp
 have e2':q2 T=(v,((vB num.toNat).length+1+(vB v.toNat).length,false)):=by
  show nm T (q1 T).2=_;rw [e1];have:=uF (v:=v.toNat) (by omega) hT2;simp only [bq,aX,List.length_nil] at this;rw [show ((v.toNat:Nat):Int)=v from by omega] at this;exact this
 have hT3:T=(vB num.toNat++[bY op]++vB v.toNat)++(vB es.length++(es.flatMap e2++[])):=by rw [hT2];simp
 have e3:nm T (q2 T).2=((es.length:Int),((vB num.toNat).length+1+(vB v.toNat).length+(vB es.length).length,false)):=by
  rw [e2'];have:=uF (v:=es.length) (by omega) hT3;simp only [bq,aX,List.length_nil] at this;exact this
 have hT4:T=(vB num.toNat++[bY op]++vB v.toNat++vB es.length)++(es.flatMap e2++[]):=by rw [hT3];simp
 have e4:q3 T es.length=(((vB num.toNat).length+1+(vB v.toNat).length+(vB es.length).length+2*es.length,false),es):=by
  show jv T es.length (nm T (q2 T).2).2 []=_;rw [e3];have:=ac1 es [] (afV a9 a2) hT4;simp only [bq,aX,List.length_nil,List.nil_append] at this;exact this
 have hlen:T.length=(vB num.toNat).length+1+(vB v.toNat).length+(vB es.length).length+2*es.length:=by
  rw [hT4];simp only [bq,aX,List.length_nil,nK];omega
 have hoQ:oQ T es.length=(num,op,es,v):=by
  unfold oQ;rw [e0,e1,e4,e2']
 unfold lV;simp only;rw [e3];simp only [dC];rw [hoQ,e4,hlen,if_pos ⟨rfl,rfl,h⟩]
theorem aqw {n:Int} {a:An} (h:ek n a=true):lW n (aT a)=some a:=by
 obtain ⟨a1,a2,a3,a4,a9,a6,a7⟩:=l9 h;have hl:=dF a9;obtain ⟨num,ok,es,L⟩:=a;simp only at a3 a4 a6 a7 a9 hl;have hLx:∀x,x∈L->0<=x/\x<=255:=by
  intro x hx;obtain ⟨i,hi,rfl⟩:=List.mem_iff_getElem.1 hx;have hp:∀i,i<L.length->Lt L i=true:=by
   unfold qC at a7;by_cases hc:(L.length:Int)=n
   ·rw [if_pos hc] at a7;by_cases hp:∀i,i<L.length->Lt L i=true
    ·exact hp
    ·rw [if_neg hp] at a7;exact absurd a7 (by simp)
   ·rw [if_neg hc] at a7;exact absurd a7 (by simp)
  have:=hp i hi;unfold Lt at this;rw [aR hi] at this;simp only [aG] at this;have:=aC.1 this.1;omega
 generalize hT:aT (num,ok,es,L)=T;have hT0:T=[]++(vB num.toNat++(xD ok++(vB es.length++(es.flatMap e2++(L.map bY++[]))))):=by
  rw [<-hT];simp [aT,eT]
 have e0:q0 T=(num,((vB num.toNat).length,false)):=by
  have:=uF (T:=T) (A:=[]) (v:=num.toNat) (by omega) hT0;simp only [List.length_nil,Nat.zero_add] at this;rw [show ((num.toNat:Nat):Int)=num from by omega] at this;exact this
 have hT1:T=vB num.toNat++((if ok=true then 1 else 0:UInt8)::(vB es.length++(es.flatMap e2++(L.map bY++[])))):=by rw [hT0];simp [xD]
 have e1:q1 T=((if ok=true then 1 else 0:Int),((vB num.toNat).length+1,false)):=by
  show on T (q0 T).2=_;rw [e0];have:=DT hT1;rw [this];cases ok<;>rfl
 have hT2:T=(vB num.toNat++[(if ok=true then 1 else 0:UInt8)])++(vB es.length++(es.flatMap e2++(L.map bY++[]))):=by rw [hT1];simp
 have e3:nm T (q1 T).2=((es.length:Int),((vB num.toNat).length+1+(vB es.length).length,false)):=by
  rw [e1];have:=uF (v:=es.length) (by omega) hT2;simp only [bq,aX,List.length_nil] at this;exact this
 have hT4:T=(vB num.toNat++[(if ok=true then 1 else 0:UInt8)]++vB es.length)++(es.flatMap e2++(L.map bY++[])):=by rw [hT2];simp
 have e4:q4 T es.length=(((vB num.toNat).length+1+(vB es.length).length+2*es.length,false),es):=by
  show jv T es.length (nm T (q1 T).2).2 []=_;rw [e3];have:=ac1 es [] (afV a9 a2) hT4;simp only [bq,aX,List.length_nil,List.nil_append] at this;exact this
 have hT5:T=(vB num.toNat++[(if ok=true then 1 else 0:UInt8)]++vB es.length++es.flatMap e2)++(L.map bY++[]):=by rw [hT4];simp
 have hn:n.toNat=L.length:=by omega
 have e5:q5 T es.length n.toNat=(((vB num.toNat).length+1+(vB es.length).length+2*es.length+L.length,false),L):=by
  show nM T n.toNat (q4 T es.length).1 []=_;rw [e4,hn];have:=ak4 L [] hLx hT5;simp only [bq,aX,List.length_nil,List.nil_append,nK] at this;exact this
 have hlen:T.length=(vB num.toNat).length+1+(vB es.length).length+2*es.length+L.length:=by
  rw [hT5];simp only [bq,aX,List.length_nil,List.length_map,nK];omega
 have haQ:aQ T es.length L=(num,ok,es,L):=by
  unfold aQ;rw [e0,e1,e4];cases ok<;>rfl
 unfold lW;simp only;rw [e3];simp only [dC];rw [e5];simp only;rw [haQ,hlen,if_pos];refine ⟨aC.2 ⟨a1,a2⟩,by trivial,by trivial,?_,h⟩;rw [e1];cases ok<;>simp
theorem aeo (c:iZ) (n:Int) (hc:bR c) (hn:2<=n) (hn':n<=12):∃o c',EY (c,n)=some (o,c')/\bR c'/\o.2.2.1.length<=5:=by
 have hm:maxLen=9223372036854775807:=by decide
 show ∃o c',EX BIG _=_/\_;rw [adY];obtain ⟨r0,c0,k0,o0,a0,b0,_⟩:=bF c 9 hc (by omega);have b0:=b0 (by omega);obtain ⟨r1,c1,k1,o1⟩:=dh c0 [1,1,1,2,2,3,4] o0 (by simp) (by simp);rw [k0,aa,k1,aa];simp only;by_cases h3:r1=3
 ·obtain ⟨r2,c2,k2,o2,_⟩:=bF c1 n o1 (by omega);rw [ah h3,ai,k2,aa,aa];exact ⟨_,_,rfl,o2,by simp⟩
 ·rw [au h3,aj];by_cases h4:r1=4
  ·rw [ah h4,ai];refine eD (P:=fun z=>∃(o:kg) (c':iZ),z=some (o,c')/\bR c'/\o.2.2.1.length<=5)
    (fun (s:iZ × kg × Int)=>∃i:Nat,s.2.2=(i:Int)/\i<=5/\bR s.1/\s.2.1.2.2.1.length<=i) (fun s=>5-s.2.2.toNat) (fun _ (b:iZ × kg)=>bR b.1/\b.2.2.2.1.length<=5) (by simp [BIG]) ⟨0,rfl,by omega,o1,by simp⟩ (fun self s hx hs => ?_) (fun b hb=>⟨_,_,rfl,hb⟩)
   obtain ⟨cu,⟨num,op,es,v⟩,j⟩:=s;obtain ⟨i,h1,h2,h5,h6⟩:=hx;simp only at h1 h2 h5 h6 hs ⊢;subst h1;obtain ⟨r5,c5,k5,o5,a5,b5,_⟩:=bF cu 4 h5 (by omega);have b5:=b5 (by omega);rw [k5,aa];simp only;rw [wr (n:=1+r5) (by omega) (by omega)];by_cases hi:(i:Int)<1+r5
   ·obtain ⟨e,c6,k6,o6,hed⟩:=zV c5 n o5 hn hn';rw [ah hi,ai,k6,aa,xz es e (by omega),aa];by_cases hin:e∈es
    ·simp only [ah hin,bz,aj,aa];rw [bX (by omega)];exact hs _ ⟨i+1,rfl,by omega,o6,by simp only;omega⟩ (by simp;omega)
    ·simp only [au hin,ik,ai];rw [xA es e (by omega),aa,aa];simp only;rw [bX (by omega)];have:=XF es e;exact hs _ ⟨i+1,rfl,by omega,o6,by simp only;omega⟩ (by simp;omega)
   ·rw [au hi,aj];exact ⟨_,rfl,o5,by simp only;omega⟩
  ·obtain ⟨e,c2,k2,o2,_⟩:=zV c1 n o1 hn hn';rw [au h4,aj,k2,aa,aa];exact ⟨_,_,rfl,o2,by simp⟩
theorem XO (c:iZ) (n:Int) (hc:bR c) (hn:2<=n) (hn':n<=12):∃o c',vN (c,n)=some (o,c')/\bR c'/\o.2.2.1.length<=6:=by
 obtain ⟨o,c0,k0,o0,hl⟩:=aeo c n hc hn hn';obtain ⟨r1,c1,k1,o1,_⟩:=bF c0 20 o0 (by omega);show ∃o c',vM BIG _=_/\_;rw [Xq,k0,aa,k1,aa];simp only;by_cases h0:r1=0
 ·obtain ⟨r2,c2,k2,o2⟩:=dh c1 [0,-1,100000,100001] o1 (by simp) (by simp);rw [ah h0,ai,k2,aa,aa];exact ⟨_,_,rfl,o2,by simp only;omega⟩
 rw [au h0,aj];by_cases h1:r1=1
 ·obtain ⟨r2,c2,k2,o2⟩:=dh c1 [0,5,1,3,4] o1 (by simp) (by simp);rw [ah h1,ai,k2,aa,aa];exact ⟨_,_,rfl,o2,by simp only;omega⟩
 rw [au h1,aj];by_cases h2:r1=2
 ·obtain ⟨r2,c2,k2,o2⟩:=dh c1 [-1,1,11,12] o1 (by simp) (by simp);rw [ah h2,ai,k2,aa,aa];exact ⟨_,_,rfl,o2,by simp only;omega⟩
 rw [au h2,aj];by_cases h3:r1=3
 ·obtain ⟨e,c2,k2,o2⟩:=Lu c1 o1;rw [ah h3,ai,k2,aa,ah (by simp only [aX,List.length_nil];omega),ai,aa];exact ⟨_,_,rfl,o2,by simp only [bq,aX,List.length_nil];omega⟩
 ·rw [au h3,aj,aa];exact ⟨_,_,rfl,o1,by simp only;omega⟩
theorem ac2 (c:iZ) (n:Nat) (hc:bR c) (hn:2<=n) (hn':n<=12):∃y c',BI (c,(n:Int))=some (y,c')/\bR c'/\y.2.2.1.length<=8/\y.2.2.2.length=n:=by
 have hm:maxLen=9223372036854775807:=by decide
 show ∃y c',BH BIG _=_/\_;rw [ab7];refine eD (P:=fun z=>∃(y:An) (c':iZ),z=some (y,c')/\bR c'/\y.2.2.1.length<=8/\y.2.2.2.length=n)
  (fun (s:iZ × (Int × List Ed) × Int)=>∃i:Nat,s.2.2=(i:Int)/\i<=8/\bR s.1/\s.2.1.1=(n:Int)/\GrOk s.2.1.1 s.2.1.2/\s.2.1.2.length<=i) (fun s=>8-s.2.2.toNat) (fun _ (b:iZ × (Int × List Ed))=>bR b.1/\b.2.1=(n:Int)/\GrOk b.2.1 b.2.2/\b.2.2.length<=8) (by simp [BIG]) ⟨0,rfl,by omega,hc,rfl,⟨by show (2:Int)<=(n:Int);omega,by show (n:Int)<=12;omega,List.Pairwise.nil,by simp⟩,by simp⟩ (fun self s hx hs => ?_) (fun b hb => ?_)
 ·obtain ⟨cu,⟨m,es⟩,j⟩:=s;obtain ⟨i,h1,h2,h3,h4,h5,h6⟩:=hx;simp only at h1 h2 h3 h4 h5 h6 hs ⊢;subst h1 h4;obtain ⟨r2,c2,k2,o2,a2,b2,_⟩:=bF cu 8 h3 (by omega);have b2:=b2 (by omega);rw [k2,aa];simp only;by_cases hi:(i:Int)<r2
  ·obtain ⟨e,c3,k3,o3,hed⟩:=zV c2 (n:Int) o2 (by omega) (by omega);rw [ah hi,ai,k3,aa,Kr _ es e (by omega),aa];by_cases hin:e∈es
   ·simp only [ah hin,bz,aj,aa];rw [bX (by omega)];exact hs _ ⟨i+1,rfl,by omega,o3,rfl,h5,by simp only;omega⟩ (by simp;omega)
   ·simp only [au hin,ik,ai];rw [xA es e (by omega),aa,aa];simp only;rw [bX (by omega)];have:=XF es e;refine hs _ ⟨i+1,rfl,by omega,o3,rfl,⟨h5.1,h5.2.1,XE h5.2.2.1,fun x hx => ?_⟩,by simp only;omega⟩ (by simp;omega);rcases jC.1 hx with rfl|hx
    ·exact hed
    ·exact h5.2.2.2 x hx
  ·rw [au hi,aj];exact ⟨_,rfl,o2,rfl,h5,by simp only;omega⟩
 ·obtain ⟨cu,m,es⟩:=b;obtain ⟨h1,h2,h3,h4⟩:=hb;simp only at h1 h2 h3 h4 ⊢;subst h2;obtain ⟨r8,c8,k8,o8,a8,b8,_⟩:=bF cu 9 h1 (by omega);obtain ⟨r9,c9,k9,o9⟩:=VP c8 2 o8 (by omega);have hg:iq (n:Int) es=true:=by
   unfold iq;rw [show aP (n:Int) 1 12=true from aC.2 (by omega),Gy h3 (by omega)];rfl
  rw [k8,aa,k9,aa,akD n es (by omega),hg,aa];exact ⟨_,_,rfl,o9,by simp only;omega,by simp only [if_true];exact dD n es⟩
theorem V9 (c:iZ) (n:Nat) (hc:bR c) (hn:2<=n) (hn':n<=12):∃y c',tX (c,(n:Int))=some (y,c')/\bR c'/\y.2.2.1.length<=9/\y.2.2.2.length<=12:=by
 obtain ⟨y,c0,k0,o0,hl,hl'⟩:=ac2 c n hc hn hn';obtain ⟨r1,c1,k1,o1,_⟩:=bF c0 20 o0 (by omega);show ∃y c',tV BIG _=_/\_;rw [Ve,k0,aa,k1,aa];simp only;by_cases h0:r1=0
 ·obtain ⟨r2,c2,k2,o2⟩:=dh c1 [0,-1,100000,100001] o1 (by simp) (by simp);rw [ah h0,ai,k2,aa,aa];exact ⟨_,_,rfl,o2,by simp only;omega,by simp only;omega⟩
 rw [au h0,aj];by_cases h1:r1=1
 ·obtain ⟨r3,c3,k3,o3,a3,b3,_⟩:=bF c1 (n:Int) o1 (by omega);have b3:=b3 (by omega);obtain ⟨r4,c4,k4,o4⟩:=dh c3 [-1,0,1,11] o3 (by simp) (by simp);have hlt:r3.toNat<y.2.2.2.length:=by omega
  rw [ah h1,ai,k3,aa,k4,aa];simp only;rw [cO a3 (by omega),aR hlt,aa,aa];exact ⟨_,_,rfl,o4,by simp only;omega,by simp only [mg];omega⟩
 rw [au h1,aj];by_cases h2:r1=2
 ·rw [ah h2,ai,ah (by omega),ai,ah ⟨by show 1<=_;omega,Nat.le_refl _⟩,ai,aa];exact ⟨_,_,rfl,o1,by simp only;omega,by simp only [List.length_take,List.length_drop];omega⟩
 rw [au h2,aj];by_cases h3:r1=3
 ·obtain ⟨e,c2,k2,o2⟩:=Lu c1 o1;rw [ah h3,ai,k2,aa,ah (by simp only [aX,List.length_nil];omega),ai,aa];exact ⟨_,_,rfl,o2,by simp only [bq,aX,List.length_nil];omega,by simp only;omega⟩
 ·rw [au h3,aj,aa];exact ⟨_,_,rfl,o1,by simp only;omega,by simp only;omega⟩
theorem V_ (c:iZ) (hc:bR c):∃T c',zN (c,(1:Int))=some (BA T,c')/\bR c'/\T.length<=1:=by
 show ∃T c',J_ BIG _=_/\_;rw [ah6];simp only [decide_false,aj,show ¬((5000:Int)<1) from by omega,aa];refine eD (P:=fun z=>∃(T:List UInt8) (c':iZ),z=some (BA T,c')/\bR c'/\T.length<=1)
  (fun (s:List Int × iZ × Int)=>∃i:Nat,s.2.2=(i:Int)/\i<=1/\bR s.2.1/\s.1.length<=i) (fun s=>1-s.2.2.toNat) (fun _ (b:List Int × iZ)=>bR b.2/\b.1.length<=1) (by simp [BIG]) ⟨0,rfl,by omega,hc,by simp⟩ (fun self s hx hs => ?_) (fun b hb => ?_)
 ·have hm:maxLen=9223372036854775807:=by decide
  obtain ⟨l,cu,j⟩:=s;obtain ⟨i,h1,h2,h3,h4⟩:=hx;simp only at h1 h2 h3 h4 hs ⊢;subst h1;by_cases hi:i<1
  ·obtain ⟨r3,c3,k3,o3,_⟩:=uz cu h3;rw [ah (by omega),ai,k3,aa,ah (by simp only [aX,List.length_nil];omega),ai,bX (by omega)];exact hs _ ⟨i+1,rfl,by omega,o3,by simp only [bq,aX,List.length_nil];omega⟩ (by simp;omega)
  ·rw [au (by omega),aj];exact ⟨_,rfl,h3,by simp only;omega⟩
 ·obtain ⟨l,cu⟩:=b;simp only at hb ⊢;rw [FF];exact ⟨_,_,rfl,hb.1,by rw [List.length_map];exact hb.2⟩
theorem ac3 (c:iZ) (T:List UInt8) (hc:bR c) (hT:T.length<=500000):∃T' c',Cx (c,BA T)=some (BA T',c')/\bR c'/\T'.length<=T.length+1:=by
 have hm:maxLen=9223372036854775807:=by decide
 obtain ⟨r0,c0,k0,o0,_⟩:=bF c 12 hc (by omega);obtain ⟨X,c1,k1,o1,hX⟩:=V_ c0 o0;show ∃T' c',Cw BIG _=_/\_;rw [acu,k0,aa];simp only [bE];by_cases h0:r0=0
 ·rw [ah h0,ai,k1,aa];simp only [bE];rw [ah (by omega),ai,aa];simp only [gz];exact ⟨_,_,rfl,o1,by rw [bq];omega⟩
 rw [au h0,aj];by_cases h1:r0=1
 ·obtain ⟨r2,c2,k2,o2,a2,b2,_⟩:=bF c0 ((T.length:Int)+1) o0 (by omega);have b2:=b2 (by omega);rw [ah h1,ai,wr (by omega) (by omega),k2,aa,ah ⟨a2,by omega⟩,ai,aa];simp only [Gz];exact ⟨_,_,rfl,o2,by simp only [List.length_take,List.length_drop];omega⟩
 rw [au h1,aj];have hor:(bif decide (r0=2) then some true else some (decide (r0=3)):Option Bool)=some (decide (r0=2\/r0=3)):=by
  by_cases h2:r0=2<;>by_cases h3:r0=3<;>simp [h2,h3]
 rw [hor,aa];by_cases h23:r0=2\/r0=3
 ·rw [ah h23,ai];by_cases hp:0<T.length
  ·obtain ⟨r4,c4,k4,o4,a4,b4,_⟩:=bF c0 (T.length:Int) o0 (by omega);have b4:=b4 (by omega);obtain ⟨Y,c5,k5,o5,hY⟩:=V_ c4 o4;rw [ah (by omega),ai,k4,aa,ah ⟨a4,by omega⟩,ai,k5,aa];simp only [Gz,gz,bE];rw [wr (by omega) (by omega),ah (by simp only [List.length_take,List.length_drop];omega),ai,ah (by omega),ai,ah (by simp only [bq,List.length_take,List.length_drop];omega),ai,aa];simp only;exact ⟨_,_,rfl,o5,by simp only [bq,List.length_take,List.length_drop];omega⟩
  ·rw [au (by omega),aj,aa];exact ⟨T,_,rfl,o0,by omega⟩
 ·rw [au h23,aj,aa];exact ⟨T,_,rfl,o0,by omega⟩
theorem Z0 (a:An) (h1:a.2.2.1.length<=maxLen) (h2:a.2.2.2.length<=maxLen):pW (a,a)=some (true,()):=by
 show yK BIG _=_;rw [ZO];simp only [decide_true,ai,beq_self_eq_true,OM _ _ h1,aej _ _ h2,aa]
def pK (L:List aD) (p:aD->Nat) (rz hz:aD->aD):List aD × Option (Nat × aD):=
 if h:L.findIdx (fun y=>decide (p y=2))<L.length then
  ((L.take (L.findIdx fun y=>decide (p y=2))).map (fun y=>if p y=1 then rz y else y)++hz L[L.findIdx fun y=>decide (p y=2)]::L.drop (L.findIdx (fun y=>decide (p y=2))+1),some (L.findIdx (fun y=>decide (p y=2)),hz L[L.findIdx fun y=>decide (p y=2)]))
 else (L.map fun y=>if p y=1 then rz y else y,none)
theorem set_mid {α:Type} (a:List α) (x y:α) (b:List α):(a++x::b).set a.length y=a++y::b:=by
 rw [List.set_append_right _ _ (Nat.le_refl _),Nat.sub_self];rfl
theorem aoT {A B:Type} {o:Option A} {v:A} (h:o=some v) (f:A->Option B):Option.bind o f=f v:=by rw [h];rfl
theorem ak5 {X B:Type} (L:List aD) (hl:L.length<=1048576) (p:aD->Nat) (rz hz:aD->aD) (mk:List aD->Nat->X) (ix:X->Nat) (hix:∀l i,ix (mk l i)=i) (fin:List aD->B) (hit:List aD->Nat->aD->B) {F:(X->Option B)->X->Option B}
  (hF:∀self (out:List aD) (i:Nat) y,out.length=L.length->L[i]?=some y->out[i]?=some y->F self (mk out i)=if p y=2 then some (hit (out.set i (hz y)) i (hz y)) else self (mk (out.set i (if p y=1 then rz y else y)) (i+1)))
  (hE:∀self (out:List aD),out.length=L.length->F self (mk out L.length)=some (fin out)) :
  aO BIG F (mk L 0)=some (match (pK L p rz hz).2 with|none=>fin (pK L p rz hz).1|some (j,y)=>hit (pK L p rz hz).1 j y):=by
 refine rf (fun x=>∃i:Nat,i<=L.length/\x=mk ((L.take i).map (fun y=>if p y=1 then rz y else y)++L.drop i) i/\∀j y,j<i->L[j]?=some y->p y≠2) (fun x=>L.length-ix x) (fun _=>_) (fun self x ⟨i,h1,h2,h3⟩ hs => ?_) (n:=BIG) (x:=mk L 0) (by rw [hix];simp [BIG];omega) ⟨0,by omega,by simp,fun j y h=>by omega⟩;subst h2;have hlen:((L.take i).map (fun y=>if p y=1 then rz y else y)++L.drop i).length=L.length:=by
  simp only [bq,List.length_map,List.length_take,List.length_drop];omega
 have htl:((L.take i).map (fun y=>if p y=1 then rz y else y)).length=i:=by
  simp only [List.length_map,List.length_take];omega
 by_cases hi:i<L.length
 ·have hy:=aR hi;have hd:L.drop i=L[i]::L.drop (i+1):=List.drop_eq_getElem_cons hi;have ho:((L.take i).map (fun y=>if p y=1 then rz y else y)++L.drop i)[i]?=some L[i]:=by
   rw [List.getElem?_append_right (by omega),htl,Nat.sub_self,hd];rfl
  have hset:∀z,((L.take i).map (fun y=>if p y=1 then rz y else y)++L.drop i).set i z=(L.take i).map (fun y=>if p y=1 then rz y else y)++z::L.drop (i+1):=by
   intro z;have:=set_mid ((L.take i).map (fun y=>if p y=1 then rz y else y)) L[i] z (L.drop (i+1));rw [htl] at this;rw [hd];exact this
  rw [hF self _ i L[i] hlen hy ho];by_cases hp:p L[i]=2
  ·rw [if_pos hp,hset];have hfi:L.findIdx (fun y=>decide (p y=2))=i:=by
    rw [List.findIdx_eq hi];refine ⟨by simpa using hp,fun j hj => ?_⟩;have:=h3 j L[j] hj (aR (by omega));simpa using this
   unfold pK;rw [dif_pos (by rw [hfi];exact hi)];simp only [hfi]
  ·rw [if_neg hp];refine hs _ ⟨i+1,hi,?_,fun j y hj hjy => ?_⟩ (by rw [hix,hix];omega)
   ·rw [hset,List.take_succ_eq_append_getElem hi,List.map_append,List.append_assoc];rfl
   ·by_cases hji:j=i
    ·subst hji;rw [hy] at hjy;cases hjy;exact hp
    ·exact h3 j y (by omega) hjy
 ·have hin:i=L.length:=by omega
  subst hin;rw [hE self _ hlen];have hno:¬L.findIdx (fun y=>decide (p y=2))<L.length:=by
   intro hlt;have h1:=List.findIdx_getElem (w:=hlt);have:=h3 _ _ hlt (aR hlt);exact this (by simpa using h1)
  unfold pK;rw [dif_neg hno];simp
def Zc (k:Int):Int:=if 4<k+1 then 4 else k+1
def kT (k:Int) (x:aD):aD:=(x.1,x.2.1,Zc k,x.2.2.2)
def O7 (x:aD):aD:=(x.1,x.2.1,x.2.2.1,true)
def pM (s:Int->Bool) (k:Int) (x:aD):Nat:=if x.2.2.2=true/\x.2.2.1=k/\s x.1=true then 1 else 0
def gJ (s:Int->Bool) (k:Int) (x:aD):Nat:=if x.2.2.2=true\/x.2.2.1≠k\/(s x.1=false/\s x.2.1=false) then 0 else if s x.1=true/\s x.2.1=true then 1 else 2
def sch (n:Nat) (L:List aD) (e:Ed) (k:Int):List aD × Option (Nat × aD):=
 let c:=if cmp n L k e.2<cmp n L k e.1 then bI n L k e.2 else bI n L k e.1
 pK ((pK L (pM (fun x=>decide (bI n L k x=c)) k) (kT k) O7).1) (gJ (fun x=>decide (bI n L k x=c)) k) (kT k) O7
theorem We {L:List aD} {p:aD->Nat} {rz hz:aD->aD} (h:∀y,p y≠2):pK L p rz hz=(L.map fun y=>if p y=1 then rz y else y,none):=by
 unfold pK;rw [dif_neg];intro hlt;have h1:=List.findIdx_getElem (w:=hlt);exact h _ (by simpa using h1)
theorem afW (L:List aD) (p:aD->Nat) (rz hz:aD->aD):(pK L p rz hz).1.length=L.length:=by
 unfold pK;split
 ·rename_i h;simp only [bq,List.length_map,List.length_take,aX,List.length_drop];omega
 ·simp
theorem Wh (s:Int->Bool) (k:Int):∀y,pM s k y≠2:=fun y=>by unfold pM;split<;>omega
theorem ak6 {L:List aD} {p:aD->Nat} {rz hz:aD->aD} (h1:∀y,((rz y).1,(rz y).2.1)=(y.1,y.2.1)) (h2:∀y,((hz y).1,(hz y).2.1)=(y.1,y.2.1)):gE (pK L p rz hz).1=gE L:=by
 unfold pK gE;split
 ·rename_i h;have:L=L.take (L.findIdx fun y=>decide (p y=2))++L[L.findIdx fun y=>decide (p y=2)]::L.drop (L.findIdx (fun y=>decide (p y=2))+1):=by
   conv=>lhs;rw [<-List.take_append_drop (L.findIdx fun y=>decide (p y=2)) L,List.drop_eq_getElem_cons h]
  conv=>rhs;rw [this]
  simp only [List.map_append,List.map_cons,List.map_map,h2];congr 1;apply List.map_congr_left;intro y _;simp only [Function.comp];split
  ·exact h1 y
  ·rfl
 ·rw [List.map_map];apply List.map_congr_left;intro y _;simp only [Function.comp];split
  ·exact h1 y
  ·rfl
theorem afX {L:List aD} {p:aD->Nat} {rz hz:aD->aD} (h1:∀y,((rz y).1,(rz y).2.1)=(y.1,y.2.1)) (h3:∀y,(rz y).2.2.2=y.2.2.2) (hn:(pK L p rz hz).2=none):LG (pK L p rz hz).1=LG L:=by
 unfold pK at hn ⊢;split at hn
 ·cases hn
 ·rename_i h;rw [dif_neg h];unfold LG;simp only [List.filter_map,List.map_map];have hc:((fun x:aD=>x.2.2.2) ∘ fun y=>if p y=1 then rz y else y)=fun x:aD=>x.2.2.2:=by
   funext y;simp only [Function.comp];split
   ·exact h3 y
   ·rfl
  rw [hc];apply List.map_congr_left;intro y _;simp only [Function.comp];split
  ·exact h1 y
  ·rfl
theorem wrk {k:Int} (h0:0<=k) (h4:k<=4):IntKind.wrap .i64 (k+1)=k+1:=wr (by omega) (by omega)
section
variable {n:Nat} {L:List aD} (hg:iq n (gE L)=true) {e:Ed} (ha:0<=e.1/\e.1<n) (hb:0<=e.2/\e.2<n) {k:Int} (k0:0<=k) (k4:k<=4)
include hg ha hb k0 k4
theorem anJ {x:aD} (hx:x∈L):(0<=x.1/\x.1<n)/\(0<=x.2.1/\x.2.1<n):=by
 have:=eB ((ji hg).1 (x.1,x.2.1) (List.mem_map.2 ⟨x,hx,rfl⟩));simp only at this;omega
end
section
variable {n:Nat} {L:List aD} (hg:iq n (gE L)=true) {e:Ed} (ha:0<=e.1/\e.1<n) (hb:0<=e.2/\e.2<n) {k:Int} (k0:0<=k) (k4:k<=4)
include hg ha hb k0 k4
theorem amm (hN:NoCyc (aN L k)):nG (((n:Int),L),e,k)=some (((sch n L e k).1,match (sch n L e k).2 with|none=>(-1:Int)|some (j,_)=>(j:Int)),()):=by
 have hm:maxLen=9223372036854775807:=by decide
 obtain ⟨h1,h12⟩:=O5 hg;obtain ⟨hgE,hgn,hL6⟩:=ji hg;obtain ⟨hE,hEn,hEl⟩:=KC hg k;obtain ⟨r,b,r1,r2,r3⟩:=wR (n:=n) L k h1 h12 (by omega) hE;obtain ⟨Fs,rfl,hF⟩:=r3 (r2.2 hN);obtain ⟨ja,pa,a1,a2,a3⟩:=nN hE hF h12 h1 e.1 ha.1 ha.2;obtain ⟨jb,pb,b1,b2,b3⟩:=nN hE hF h12 h1 e.2 hb.1 hb.2;have htl:=Ab Fs;have jal:=(aY a1).1;have jbl:=(aY b1).1;have hpa:=List.mem_of_getElem? a1;have hpb:=List.mem_of_getElem? b1;obtain ⟨Va,va1,_,va3,va4,_,va6⟩:=hF.verts h12 hpa;obtain ⟨Vb,vb1,_,vb3,vb4,_,vb6⟩:=hF.verts h12 hpb;have hGa:=hF.gt pa hpa;have hGb:=hF.gt pb hpb;have ra:=hGa.rg pa.1 (List.mem_cons_self ..);have rb:=hGb.rg pb.1 (List.mem_cons_self ..);have ca:=(hGa.con hE _).1 a2;have cb:=(hGb.con hE _).1 b2;have la:Va.length=cmp n L k e.1:=by rw [va4,KD hg hF hpa,KE hg ra ha ca]
 have lb:Vb.length=cmp n L k e.2:=by rw [vb4,KD hg hF hpb,KE hg rb hb cb]
 have ma:∀x:Int,0<=x/\x<n->(x∈Va↔bI n L k x=bI n L k e.1):=fun x hx=>by
  rw [va3,hGa.con hE,iQ hg k hx ha];exact ⟨fun h=>h.symm.trans ca,fun h=>ca.trans h.symm⟩
 have mb:∀x:Int,0<=x/\x<n->(x∈Vb↔bI n L k x=bI n L k e.2):=fun x hx=>by
  rw [vb3,hGb.con hE,iQ hg k hx hb];exact ⟨fun h=>h.symm.trans cb,fun h=>cb.trans h.symm⟩
 show Bw BIG _=_;rw [ab0,ah (by simp only;omega),ai,r1,aa];simp only;rw [a3,aa,aK (by omega),rA a1,aa,va1,aa,b3,aa,aK (by omega),rA b1,aa,vb1,aa];simp only;have hsel:∃V,(bif decide ((Vb.length:Int)<(Va.length:Int)) then some Vb else some Va)=some V/\V.length<=12/\∀x:Int,0<=x/\x<n->(x∈V↔bI n L k x=(if cmp n L k e.2<cmp n L k e.1 then bI n L k e.2 else bI n L k e.1)):=by
  by_cases hc:cmp n L k e.2<cmp n L k e.1
  ·rw [ah (by omega),if_pos hc];exact ⟨Vb,rfl,vb6,mb⟩
  ·rw [au (by omega),if_neg hc];exact ⟨Va,rfl,va6,ma⟩
 obtain ⟨V,hV,hVl,hVm⟩:=hsel;rw [hV,aa,wrk k0 k4];have hup:(bif decide ((4:Int)<k+1) then some (4:Int) else some (k+1))=some (Zc k):=by
  unfold Zc;by_cases h:4<k+1
  ·rw [ah h,if_pos h];rfl
  ·rw [au h,if_neg h];rfl
 rw [hup,aa,List.nil_append];unfold sch;simp only;generalize (if cmp n L k e.2<cmp n L k e.1 then bI n L k e.2 else bI n L k e.1)=c at hVm ⊢;have hVd:∀x:Int,0<=x/\x<n->g_ (V,x)=some (decide (bI n L k x=c),()):=fun x hx=>by
  rw [wC V x (by omega)];by_cases h:bI n L k x=c
  ·rw [ah h,ah ((hVm x hx).2 h)]
  ·rw [au h,au (fun h'=>h ((hVm x hx).1 h'))]
 have e1:=ak5 L (by omega) (pM (fun x=>decide (bI n L k x=c)) k) (kT k) O7 (fun (l:List aD) (i:Nat)=>((l,(i:Int)):List aD × Int)) (fun x=>x.2.toNat) (fun _ _=>by simp) (fun l=>l) (fun l _ _=>l) (F:=fun self12 x11=>
   bif decide (x11.2<(x11.1.length:Int)) then
    Option.bind (Option.bind (bnd x11.1.length x11.2 fun n13=>
     Option.bind x11.1[n13]? fun y14=>
     bif y14.2.2.2 then
      bnd x11.1.length x11.2 fun n15=>
      Option.bind x11.1[n15]? fun y16=>
      bif decide (y16.2.2.1=k) then
       bnd x11.1.length x11.2 fun n17=>
       Option.bind x11.1[n17]? fun y18=>
       Option.bind (g_ (V,y18.1)) fun r19=>
       some r19.1
      else some false
     else some false:Option (Bool)) fun x20=>
     bif x20 then
      bnd x11.1.length x11.2 fun n21=>
      Option.bind x11.1[n21]? fun y22=>
      some (x11.1.set n21 (y22.1,y22.2.1,Zc k,y22.2.2.2))
     else some x11.1:Option ((List (Int × Int × Int × Bool)))) fun x23=>
    self12 (x23,IntKind.wrap .i64 (x11.2+(1:Int)))
   else some x11.1) (fun self out i y ho hy hoy => ?_) (fun self out ho=>by simp [ho])
 ·rw [We (Wh _ _)] at e1;simp only at e1;have e1':(aO BIG _ ((L,(0:Int)):List aD × Int))=_:=e1;rw [e1',aa,We (Wh _ _)];simp only;have hmr:∀y,y∈L.map (fun y=>if pM (fun x=>decide (bI n L k x=c)) k y=1 then kT k y else y)->(0<=y.1/\y.1<n)/\(0<=y.2.1/\y.2.1<n):=by
   intro y hy;obtain ⟨z,hz,rfl⟩:=List.mem_map.1 hy;have:=anJ hg ha hb k0 k4 hz;split
   ·exact this
   ·exact this
  have hml:(L.map (fun y=>if pM (fun x=>decide (bI n L k x=c)) k y=1 then kT k y else y)).length=L.length:=by rw [List.length_map]
  have hor:∀(i:Nat) y,(L.map (fun y=>if pM (fun x=>decide (bI n L k x=c)) k y=1 then kT k y else y))[i]?=some y->∃y0,L[i]?=some y0/\y0.2.2.2=y.2.2.2/\(y.2.2.2=false->y0.2.2.1=y.2.2.1):=by
   intro i y hy;rw [List.getElem?_map,Option.map_eq_some_iff] at hy;obtain ⟨y0,h0,rfl⟩:=hy;refine ⟨y0,h0,?_,?_⟩
   ·split
    ·rfl
    ·rfl
   ·intro ht;split at ht
    ·rename_i hp;exfalso;unfold pM at hp;split at hp
     ·rename_i hp';rw [show (kT k y0).2.2.2=y0.2.2.2 from rfl,hp'.1] at ht;cases ht
     ·omega
    ·rename_i hp;rw [if_neg hp]
  generalize L.map (fun y=>if pM (fun x=>decide (bI n L k x=c)) k y=1 then kT k y else y)=M at hmr hml hor;have e2:=ak5 M (by omega) (gJ (fun x=>decide (bI n L k x=c)) k) (kT k) O7 (fun (l:List aD) (i:Nat)=>((l,(i:Int)):List aD × Int)) (fun x=>x.2.toNat) (fun _ _=>by simp) (fun l=>Sum.inl l) (fun l j _=>Sum.inr (l,(j:Int))) (F:=fun self26 x25=>
   bif decide (x25.2<(x25.1.length:Int)) then
    Option.bind (bnd x25.1.length x25.2 fun n27=>
     Option.bind x25.1[n27]? fun y28=>
     Option.bind (g_ (V,y28.1)) fun r29=>
     bnd x25.1.length x25.2 fun n30=>
     Option.bind x25.1[n30]? fun y31=>
     Option.bind (g_ (V,y31.2.1)) fun r32=>
     Option.bind (bnd L.length x25.2 fun n33=>
      Option.bind L[n33]? fun y34=>
      bif y34.2.2.2 then
       some true
      else bnd L.length x25.2 fun n35=>
      Option.bind L[n35]? fun y36=>
      bif !decide (y36.2.2.1=k) then
       some true
      else bif !r29.1 then
       some !r32.1
      else some false:Option (Bool)) fun x37=>
     bif x37 then
      some (Sum.inl x25.1)
     else Option.bind (bif r29.1 then
      some r32.1
      else some false:Option (Bool)) fun x38=>
     bif x38 then
      bnd x25.1.length x25.2 fun n39=>
      Option.bind x25.1[n39]? fun y40=>
      some (Sum.inl (x25.1.set n39 (y40.1,y40.2.1,Zc k,y40.2.2.2)))
     else bnd x25.1.length x25.2 fun n41=>
     Option.bind x25.1[n41]? fun y42=>
     some (Sum.inr (x25.1.set n41 (y42.1,y42.2.1,y42.2.2.1,true),x25.2)):Option (((List (Int × Int × Int × Bool))) ⊕ ((List (Int × Int × Int × Bool)) × Int))) fun y=>match y with
    | .inl x43=>
     self26 (x43,IntKind.wrap .i64 (x25.2+(1:Int)))
    | .inr x43=>
     some (Sum.inr (x43.1,x43.2))
   else some (Sum.inl x25.1)) (fun self out i y ho hy hoy => ?_) (fun self out ho=>by simp [ho])
  ·refine (aoT e2 _).trans ?_;cases (pK M (gJ (fun x=>decide (bI n L k x=c)) k) (kT k) O7).2 with
   | none=>rfl
   | some r=>rfl
  ·have hi:=(aY hy).1;obtain ⟨q1,q2⟩:=hmr y (List.mem_of_getElem? hy);obtain ⟨y0,o1,o2,o3⟩:=hor i y hy;have bo:∀{B:Type} {q:Nat->Option B},bnd out.length (i:Int) q=q i:=fun {B q}=>aK (by omega)
   have bL:∀{B:Type} {q:Nat->Option B},bnd L.length (i:Int) q=q i:=fun {B q}=>aK (by omega)
   simp only [show ((i:Int)<(out.length:Int)) from by omega,decide_true,ai,bo,bL,hoy,o1,aa,hVd y.1 q1,hVd y.2.1 q2,o2];rw [bX (by omega)];cases ht:y.2.2.2 with
   | true=>
    have hp:gJ (fun x=>decide (bI n L k x=c)) k y=0:=by unfold gJ;rw [if_pos (.inl ht)]
    rw [hp,if_neg (by omega),if_neg (by omega),set_self hoy];rfl
   | false=>
    rw [o3 ht];simp only [aj];by_cases hk:y.2.2.1=k
    ·simp only [ah hk,bz,aj];by_cases hA:bI n L k y.1=c
     ·by_cases hB:bI n L k y.2.1=c
      ·have hp:gJ (fun x=>decide (bI n L k x=c)) k y=1:=by
        unfold gJ;rw [if_neg (by simp [ht,hk,hA]),if_pos (by simp [hA,hB])]
       rw [hp,if_neg (by omega),if_pos rfl];simp only [ah hA,ah hB,bz,aj,ai,aa];unfold kT;rw [ht]
      ·have hp:gJ (fun x=>decide (bI n L k x=c)) k y=2:=by
        unfold gJ;rw [if_neg (by simp [ht,hk,hA]),if_neg (by simp [hB])]
       rw [hp,if_pos rfl];simp only [ah hA,au hB,bz,aj,ai,aa];rfl
     ·by_cases hB:bI n L k y.2.1=c
      ·have hp:gJ (fun x=>decide (bI n L k x=c)) k y=2:=by
        unfold gJ;rw [if_neg (by simp [ht,hk,hB]),if_neg (by simp [hA])]
       rw [hp,if_pos rfl];simp only [au hA,ah hB,ik,bz,aj,ai,aa];rfl
      ·have hp:gJ (fun x=>decide (bI n L k x=c)) k y=0:=by
        unfold gJ;rw [if_pos (.inr (.inr ⟨au hA,au hB⟩))]
       rw [hp,if_neg (by omega),if_neg (by omega),set_self hoy];simp only [au hA,au hB,ik,ai,aa]
    ·have hp:gJ (fun x=>decide (bI n L k x=c)) k y=0:=by unfold gJ;rw [if_pos (.inr (.inl hk))]
     rw [hp,if_neg (by omega),if_neg (by omega),set_self hoy];simp only [au hk,ik,ai,aa]
 ·have hi:=(aY hy).1;obtain ⟨q1,q2⟩:=anJ hg ha hb k0 k4 (List.mem_of_getElem? hy);have bo:∀{B:Type} {q:Nat->Option B},bnd out.length (i:Int) q=q i:=fun {B q}=>aK (by omega)
  simp only [show ((i:Int)<(out.length:Int)) from by omega,decide_true,ai,bo,hoy,aa,hVd y.1 q1];rw [bX (by omega),if_neg (Wh _ _ _)];cases ht:y.2.2.2 with
  | false=>
   have hp:pM (fun x=>decide (bI n L k x=c)) k y=0:=by unfold pM;rw [if_neg (by simp [ht])]
   rw [hp,if_neg (by omega),set_self hoy];rfl
  | true=>
   simp only [ai];by_cases hk:y.2.2.1=k
   ·simp only [ah hk,ai];by_cases hA:bI n L k y.1=c
    ·have hp:pM (fun x=>decide (bI n L k x=c)) k y=1:=by unfold pM;rw [if_pos ⟨ht,hk,ah hA⟩]
     rw [hp,if_pos rfl];simp only [ah hA,ai,aa];unfold kT;rw [ht]
    ·have hp:pM (fun x=>decide (bI n L k x=c)) k y=0:=by unfold pM;rw [if_neg (by simp [hA])]
     rw [hp,if_neg (by omega),set_self hoy];simp only [au hA,aj,aa]
   ·have hp:pM (fun x=>decide (bI n L k x=c)) k y=0:=by unfold pM;rw [if_neg (by simp [hk])]
    rw [hp,if_neg (by omega),set_self hoy];simp only [au hk,aj,aa]
end
theorem ak7 (L:List aD) (x:aD) (hL:L.length<=1048576):NA (L,x)=some (L.filter (fun y=>lsB (y.1,y.2.1) (x.1,x.2.1))++[x]++L.filter (fun y=>lsB (x.1,x.2.1) (y.1,y.2.1)),()):=by
 have hm:maxLen=9223372036854775807:=by decide
 have hfl:∀(p:aD->Bool) (i:Nat),((L.take i).filter p).length<=i:=fun p i=>by
  have:=List.length_filter_le p (L.take i);rw [List.length_take] at this;omega
 have hfs:∀(p:aD->Bool) (i:Nat) (hi:i<L.length),(L.take (i+1)).filter p=(L.take i).filter p++(if p L[i]=true then [L[i]] else []):=fun p i hi=>by
  rw [List.take_succ_eq_append_getElem hi,List.filter_append];congr 1;by_cases h:p L[i]=true<;>simp [h]
 show Nz BIG _=_;rw [akb];refine eD (x:=([],(0:Int))) (P:=fun o=>o=some (L.filter (fun y=>lsB (y.1,y.2.1) (x.1,x.2.1))++[x]++L.filter (fun y=>lsB (x.1,x.2.1) (y.1,y.2.1)),())) (fun (s:List aD × Int)=>∃i:Nat,s.2=(i:Int)/\i<=L.length/\s.1=(L.take i).filter (fun y=>lsB (y.1,y.2.1) (x.1,x.2.1))) (fun s=>L.length-s.2.toNat) (fun _ (b:List aD)=>b=L.filter (fun y=>lsB (y.1,y.2.1) (x.1,x.2.1))) (by simp [BIG];omega) ⟨0,rfl,by omega,rfl⟩ (fun self s hx hs => ?_) (fun b hb => ?_)
 ·obtain ⟨out,jj⟩:=s;obtain ⟨i,h1,h2,h3⟩:=hx;simp only at h1 h2 h3 hs ⊢;subst h1 h3;by_cases hi:i<L.length
  ·have hfi:=hfl (fun y=>lsB (y.1,y.2.1) (x.1,x.2.1)) i;have bi:∀{B:Type} {q:Nat->Option B},bnd L.length (i:Int) q=q i:=fun {B q}=>aK hi
   simp only [show ((i:Int)<(L.length:Int)) from by omega,decide_true,ai,bi,aR hi,aa];have hc:(bif decide (L[i].1<x.1) then some true else bif decide (L[i].1=x.1) then some (decide (L[i].2.1<x.2.1)) else some false)=some (lsB (L[i].1,L[i].2.1) (x.1,x.2.1)):=by
    unfold lsB;simp only;cases decide (L[i].1<x.1)<;>cases decide (L[i].1=x.1)<;>rfl
   rw [hc,aa,bX (by omega)];have hs':=hs ((L.take (i+1)).filter (fun y=>lsB (y.1,y.2.1) (x.1,x.2.1)),((i+1:Nat):Int)) ⟨i+1,rfl,hi,rfl⟩ (by simp;omega);rw [hfs _ i hi] at hs';refine Eq.mpr ?_ hs';cases hp:lsB (L[i].1,L[i].2.1) (x.1,x.2.1) with
   | true=>
    simp only [ai,if_true];rw [ah (by simp only [aX,List.length_nil];omega),ai,aa]
   | false=>
    simp only [aj,Bool.false_eq_true,if_false,List.append_nil,aa]
  ·simp only [show ¬((i:Int)<(L.length:Int)) from by omega,decide_false,aj];have:i=L.length:=by omega
   subst this;exact ⟨_,rfl,by rw [List.take_length]⟩
 ·subst hb;have h0:=List.length_filter_le (fun y=>lsB (y.1,y.2.1) (x.1,x.2.1)) L;rw [ah (by simp only [aX,List.length_nil];omega),ai];refine eD (x:=(L.filter (fun y=>lsB (y.1,y.2.1) (x.1,x.2.1))++[x],(0:Int))) (P:=fun o=>o=some (L.filter (fun y=>lsB (y.1,y.2.1) (x.1,x.2.1))++[x]++L.filter (fun y=>lsB (x.1,x.2.1) (y.1,y.2.1)),())) (fun (s:List aD × Int)=>∃i:Nat,s.2=(i:Int)/\i<=L.length/\s.1=L.filter (fun y=>lsB (y.1,y.2.1) (x.1,x.2.1))++[x]++(L.take i).filter (fun y=>lsB (x.1,x.2.1) (y.1,y.2.1))) (fun s=>L.length-s.2.toNat) (fun _ (b:List aD)=>b=L.filter (fun y=>lsB (y.1,y.2.1) (x.1,x.2.1))++[x]++L.filter (fun y=>lsB (x.1,x.2.1) (y.1,y.2.1))) (by simp [BIG];omega) ⟨0,rfl,by omega,by simp⟩ (fun self s hx hs => ?_) (fun b hb=>by rw [hb]);obtain ⟨out,jj⟩:=s;obtain ⟨i,h1,h2,h3⟩:=hx;simp only at h1 h2 h3 hs ⊢;subst h1 h3;by_cases hi:i<L.length
  ·have hfi:=hfl (fun y=>lsB (x.1,x.2.1) (y.1,y.2.1)) i;have bi:∀{B:Type} {q:Nat->Option B},bnd L.length (i:Int) q=q i:=fun {B q}=>aK hi
   simp only [show ((i:Int)<(L.length:Int)) from by omega,decide_true,ai,bi,aR hi,aa];have hc:(bif decide (x.1<L[i].1) then some true else bif decide (L[i].1=x.1) then some (decide (x.2.1<L[i].2.1)) else some false)=some (lsB (x.1,x.2.1) (L[i].1,L[i].2.1)):=by
    unfold lsB;simp only;have:decide (L[i].1=x.1)=decide (x.1=L[i].1):=by
     by_cases h:L[i].1=x.1
     ·rw [ah h,ah h.symm]
     ·rw [au h,au (fun h'=>h h'.symm)]
    rw [this];cases decide (x.1<L[i].1)<;>cases decide (x.1=L[i].1)<;>rfl
   rw [hc,aa,bX (by omega)];have hs':=hs (L.filter (fun y=>lsB (y.1,y.2.1) (x.1,x.2.1))++[x]++(L.take (i+1)).filter (fun y=>lsB (x.1,x.2.1) (y.1,y.2.1)),((i+1:Nat):Int)) ⟨i+1,rfl,hi,rfl⟩ (by simp;omega);rw [hfs _ i hi,<-List.append_assoc] at hs';refine Eq.mpr ?_ hs';cases hp:lsB (x.1,x.2.1) (L[i].1,L[i].2.1) with
   | true=>
    simp only [ai,if_true];rw [ah (by simp only [bq,aX,List.length_nil];omega),ai,aa]
   | false=>
    simp only [aj,Bool.false_eq_true,if_false,List.append_nil,aa]
  ·simp only [show ¬((i:Int)<(L.length:Int)) from by omega,decide_false,aj];have:i=L.length:=by omega
   subst this;exact ⟨_,rfl,by rw [List.take_length]⟩
theorem put_eq {L:List aD} {e:Ed} (hs:zb (gE L)) (hne:e∉gE L) {k:Nat} (hk:k<=L.length) (h1:∀j (hj:j<L.length),j<k->lsB (L[j].1,L[j].2.1) e=true) (h2:∀hj:k<L.length,lsB (L[k].1,L[k].2.1) e=false) :
  L.filter (fun y=>lsB (y.1,y.2.1) e)=L.take k/\L.filter (fun y=>lsB e (y.1,y.2.1))=L.drop k:=by
 have hasym:∀a b:Ed,lsB a b=true->lsB b a=false:=by
  intro a b h;cases hb:lsB b a with
  | false=>rfl
  | true=>
   exfalso;simp only [lsB,Bool.or_eq_true,aG,decide_eq_true_eq] at h hb;omega
 have hT:∀y,y∈L.take k->lsB (y.1,y.2.1) e=true:=by
  intro y hy;obtain ⟨j,hj,rfl⟩:=List.mem_iff_getElem.1 hy;rw [List.length_take] at hj;rw [List.getElem_take];exact h1 j (by omega) (by omega)
 have hgl:(gE L).length=L.length:=by unfold gE;rw [List.length_map]
 have hge:∀j (hj:j<L.length),(gE L)[j]'(by omega)=(L[j].1,L[j].2.1):=fun j hj=>by unfold gE;rw [List.getElem_map]
 have hD:∀y,y∈L.drop k->lsB e (y.1,y.2.1)=true:=by
  intro y hy;obtain ⟨j,hj,rfl⟩:=List.mem_iff_getElem.1 hy;rw [List.length_drop] at hj;rw [List.getElem_drop];have hkl:k<L.length:=by omega
  have hk2:lsB e (L[k].1,L[k].2.1)=true:=by
   cases hb:lsB e (L[k].1,L[k].2.1) with
   | true=>rfl
   | false=>
    have:=XD (h2 hkl) hb;exact absurd (List.mem_map.2 ⟨L[k],List.getElem_mem hkl,this⟩) hne
  by_cases hj0:j=0
  ·subst hj0;exact hk2
  ·have:=List.pairwise_iff_getElem.1 hs k (k+j) (by omega) (by omega) (by omega);rw [hge k hkl,hge (k+j) (by omega)] at this;exact DC hk2 this
 constructor
 ·conv=>lhs;rw [<-List.take_append_drop k L,List.filter_append]
  rw [List.filter_eq_self.2 hT,List.filter_eq_nil_iff.2 (fun y hy=>by rw [hasym _ _ (hD y hy)];simp),List.append_nil]
 ·conv=>lhs;rw [<-List.take_append_drop k L,List.filter_append]
  rw [List.filter_eq_self.2 hD,List.filter_eq_nil_iff.2 (fun y hy=>by rw [hasym _ _ (hT y hy)];simp),List.nil_append]
theorem aoU {L:List aD} {p:aD->Nat} {rz hz:aD->aD} {j:Nat} {y:aD} (h:(pK L p rz hz).2=some (j,y)):(pK L p rz hz).1[j]?=some y:=by
 unfold pK at h ⊢;split at h
 ·rename_i hlt;simp only [aF,Prod.mk.injEq] at h;obtain ⟨rfl,rfl⟩:=h;rw [dif_pos hlt];simp only;rw [List.getElem?_append_right (by rw [List.length_map,List.length_take];exact Nat.min_le_left ..),List.length_map,List.length_take,Nat.min_eq_left (Nat.le_of_lt hlt),Nat.sub_self];rfl
 ·cases h
def yP (n:Nat) (e:Ed):Nat->List aD->List aD × Option aD
 | 0,L=>(L,none)
 | k+1,L=>match (sch n L e (k:Int)).2 with
  | none=>yP n e k (sch n L e (k:Int)).1
  | some (_,y)=>((sch n L e (k:Int)).1,some y)
theorem afY (n:Nat) (L:List aD) (e:Ed) (k:Int):(sch n L e k).1.length=L.length:=by
 unfold sch;simp only;rw [afW,afW]
theorem ac4 (n:Nat) (e:Ed):∀(k:Nat) (L:List aD),(yP n e k L).1.length=L.length
 | 0,L=>rfl
 | k+1,L=>by
  unfold yP;split
  ·rw [ac4 n e k,afY]
  ·exact afY ..
structure SOk (n:Nat) (L:List aD):Prop where
 gr:iq n (gE L)=true
 nc:NoCyc (LG L)
theorem aq_ (L:List aD) (k:Int):∀e,e∈aN L k->e∈LG L:=by
 intro e he;unfold aN at he;unfold LG;rw [List.mem_map] at he ⊢;obtain ⟨x,h1,h2⟩:=he;simp only [List.mem_filter,aG] at h1;exact ⟨x,List.mem_filter.2 ⟨h1.1,h1.2.1⟩,h2⟩
theorem Wi (n:Nat) (L:List aD) (e:Ed) (k:Int):gE (sch n L e k).1=gE L:=by
 unfold sch;simp only;rw [ak6 (rz:=kT k) (hz:=O7) (fun _=>rfl) (fun _=>rfl),ak6 (rz:=kT k) (hz:=O7) (fun _=>rfl) (fun _=>rfl)]
theorem aoV {n:Nat} {L:List aD} {e:Ed} {k:Int} (h:(sch n L e k).2=none):LG (sch n L e k).1=LG L:=by
 unfold sch at h ⊢;simp only at h ⊢;rw [afX (rz:=kT k) (hz:=O7) (fun _=>rfl) (fun _=>rfl) h,afX (rz:=kT k) (hz:=O7) (fun _=>rfl) (fun _=>rfl) (by rw [We (Wh _ _)])]
theorem SOk.sch {n:Nat} {L:List aD} (h:SOk n L) {e:Ed} {k:Int} (hn:(sch n L e k).2=none):SOk n (sch n L e k).1:=⟨by rw [Wi];exact h.gr,by rw [aoV hn];exact h.nc⟩
def kU (e:Ed) (s:aD × List aD) (y:aD):aD × List aD:=if y.1=e.1/\y.2.1=e.2 then (y,s.2) else (s.1,s.2++[y])
theorem P9 (e:Ed):∀(L:List aD) (o:aD) (acc:List aD),(L.foldl (kU e) (o,acc)).2=acc++L.filter (fun y=>decide ((y.1,y.2.1)≠e))/\((L.foldl (kU e) (o,acc)).1=o\/((L.foldl (kU e) (o,acc)).1∈L/\((L.foldl (kU e) (o,acc)).1.1,(L.foldl (kU e) (o,acc)).1.2.1)=e))/\((∃y,y∈L/\(y.1,y.2.1)=e)->(L.foldl (kU e) (o,acc)).1∈L/\((L.foldl (kU e) (o,acc)).1.1,(L.foldl (kU e) (o,acc)).1.2.1)=e)
 | [],o,acc=>by simp
 | x::L,o,acc=>by
  rw [List.foldl_cons]
  by_cases hx:x.1=e.1/\x.2.1=e.2
  ·have hxe:(x.1,x.2.1)=e:=by rw [hx.1,hx.2]
   have hs:kU e (o,acc) x=(x,acc):=by unfold kU;rw [if_pos hx]
   rw [hs]
   obtain ⟨h1,h2,h3⟩:=P9 e L x acc
   have h4:(L.foldl (kU e) (x,acc)).1∈x::L/\((L.foldl (kU e) (x,acc)).1.1,(L.foldl (kU e) (x,acc)).1.2.1)=e:=by
    rcases h2 with h2|h2
    ·rw [h2];exact ⟨List.mem_cons_self ..,hxe⟩
    ·exact ⟨List.mem_cons_of_mem _ h2.1,h2.2⟩
   exact ⟨by rw [h1,List.filter_cons_of_neg (by simp [hxe])],.inr h4,fun _=>h4⟩
  ·have hxe:(x.1,x.2.1)≠e:=fun h=>hx ⟨by rw [<-h],by rw [<-h]⟩
   have hs:kU e (o,acc) x=(o,acc++[x]):=by unfold kU;rw [if_neg hx]
   rw [hs]
   obtain ⟨h1,h2,h3⟩:=P9 e L o (acc++[x])
   refine ⟨?_,?_,fun h => ?_⟩
   ·rw [h1,List.filter_cons_of_pos (by simpa using hxe)]
    simp
   ·rcases h2 with h2|h2
    ·exact .inl h2
    ·exact .inr ⟨List.mem_cons_of_mem _ h2.1,h2.2⟩
   ·obtain ⟨y,hy,hye⟩:=h
    rw [List.mem_cons] at hy
    rcases hy with rfl|hy
    ·exact absurd hye hxe
    ·have:=h3 ⟨y,hy,hye⟩
     exact ⟨List.mem_cons_of_mem _ this.1,this.2⟩
theorem aqx (e:Ed) (L:List aD) (i:Nat):((L.take i).foldl (kU e) (((0:Int),(0:Int),(0:Int),false),[])).2.length<=i:=by
 rw [(P9 e (L.take i) _ []).1];have:=List.length_filter_le (fun y:aD=>decide ((y.1,y.2.1)≠e)) (L.take i);rw [List.length_take] at this;rw [List.nil_append];omega
def lvR (n:Nat) (t:List aD × Option aD):((Int × List aD) × (Int × List aD) × (Int × Int)) ⊕ ((Int × List aD) × (Int × Int) × Bool × Bool):=
 match t.2 with
 | none=>.inl (((n:Int),t.1),((0:Int),[]),((0:Int),(0:Int)))
 | some y=>.inr (((n:Int),t.1),(y.1,y.2.1),true,true)
section
variable {n:Nat} {e:Ed} (ha:0<=e.1/\e.1<n) (hb:0<=e.2/\e.2<n)
include ha hb
theorem ar0 (k:Nat) (hk:k<=5) (L:List aD) (hS:SOk n L):aO BIG (fun self18 x17=>
  bif decide ((0:Int)<=x17.2.2.2) then
   Option.bind (nG (x17.1,e,x17.2.2.2)) fun r19=>
   bif decide ((0:Int)<=r19.1.2) then
    bnd r19.1.1.length r19.1.2 fun n20=>
    Option.bind r19.1.1[n20]? fun y21=>
    bnd r19.1.1.length r19.1.2 fun n22=>
    Option.bind r19.1.1[n22]? fun y23=>
    some (Sum.inr ((x17.1.1,r19.1.1),(y21.1,y23.2.1),true,true))
   else self18 ((x17.1.1,r19.1.1),x17.2.1,x17.2.2.1,IntKind.wrap .i64 (x17.2.2.2-(1:Int)))
  else some (Sum.inl (x17.1,x17.2.1,x17.2.2.1))) ((((n:Int),L),((0:Int),[]),((0:Int),(0:Int)),(k:Int)-1):(Int × List aD) × (Int × List aD) × (Int × Int) × Int)=some (lvR n (yP n e k L)):=by
 have hm:maxLen=9223372036854775807:=by decide
 refine Exists.elim (wu (F:=fun self18 x17=>
  bif decide ((0:Int)<=x17.2.2.2) then
   Option.bind (nG (x17.1,e,x17.2.2.2)) fun r19=>
   bif decide ((0:Int)<=r19.1.2) then
    bnd r19.1.1.length r19.1.2 fun n20=>
    Option.bind r19.1.1[n20]? fun y21=>
    bnd r19.1.1.length r19.1.2 fun n22=>
    Option.bind r19.1.1[n22]? fun y23=>
    some (Sum.inr ((x17.1.1,r19.1.1),(y21.1,y23.2.1),true,true))
   else self18 ((x17.1.1,r19.1.1),x17.2.1,x17.2.2.1,IntKind.wrap .i64 (x17.2.2.2-(1:Int)))
  else some (Sum.inl (x17.1,x17.2.1,x17.2.2.1))) (fun (x:(Int × List aD) × (Int × List aD) × (Int × Int) × Int)=>∃(k:Nat) (L:List aD),x=(((n:Int),L),((0:Int),[]),((0:Int),(0:Int)),(k:Int)-1)/\k<=5/\SOk n L) (fun x=>(x.2.2.2+1).toNat)
  (fun x b=>∀(k:Nat) (L:List aD),x=(((n:Int),L),((0:Int),[]),((0:Int),(0:Int)),(k:Int)-1)->b=lvR n (yP n e k L)) (fun self x hx hs => ?_) (n:=BIG) (x:=(((n:Int),L),((0:Int),[]),((0:Int),(0:Int)),(k:Int)-1)) (by simp [BIG];omega) ⟨k,L,rfl,hk,hS⟩) fun b hbb => ?_
 rotate_left
 ·rw [hbb.1,hbb.2 k L rfl]
 ·obtain ⟨k,L,rfl,hk,hS⟩:=hx;simp only at hs ⊢;have uniq:∀{k':Nat} {L':List aD} ,((((n:Int),L),((0:Int),[]),((0:Int),(0:Int)),(k:Int)-1):(Int × List aD) × (Int × List aD) × (Int × Int) × Int)=(((n:Int),L'),((0:Int),[]),((0:Int),(0:Int)),(k':Int)-1)->k'=k/\L'=L:=by
   intro k' L' h;simp only [Prod.mk.injEq,true_and] at h;exact ⟨by omega,h.1.symm⟩
  cases k with
  | zero=>
   rw [au (by omega),aj];refine ⟨_,rfl,fun k' L' h => ?_⟩;obtain ⟨rfl,rfl⟩:=uniq h;rfl
  | succ k=>
   have hlev:((k+1:Nat):Int)-1=(k:Int):=by omega
   rw [hlev,ah (by omega),ai,amm hS.gr ha hb (by omega) (by omega) (hS.nc.sub (aq_ L k)),aa];cases hsc:(sch n L e (k:Int)).2 with
   | none=>
    simp only;rw [au (by omega),aj,wr (by omega) (by omega)];obtain ⟨b,g1,g2⟩:=hs (((n:Int),(sch n L e (k:Int)).1),((0:Int),[]),((0:Int),(0:Int)),(k:Int)-1) ⟨k,_,rfl,by omega,hS.sch hsc⟩ (by simp only;omega);refine ⟨b,g1,fun k' L' h => ?_⟩;rw [<-hlev] at h;obtain ⟨rfl,rfl⟩:=uniq h;rw [g2 k _ rfl];show _=lvR n (match (sch n L' e (k:Int)).2 with|none=>_|some (_,y)=>_);rw [hsc]
   | some r=>
    obtain ⟨j,y⟩:=r;have hj:(sch n L e (k:Int)).1[j]?=some y:=aoU hsc;have hjl:=(aY hj).1;have bj:∀{B:Type} {q:Nat->Option B},bnd (sch n L e (k:Int)).1.length (j:Int) q=q j:=fun {B q}=>aK hjl
    simp only;rw [ah (by omega),ai];simp only [bj,hj,aa];refine ⟨_,rfl,fun k' L' h => ?_⟩;rw [<-hlev] at h;obtain ⟨rfl,rfl⟩:=uniq h;show _=lvR n (match (sch n L' e (k:Int)).2 with|none=>_|some (_,y)=>_);rw [hsc];rfl
end
abbrev Wb:=Int × List aD
theorem lK (y:An) (h1:y.2.2.1.length<=1048576) (h2:y.2.2.2.length<=1048576):gM y=some (y,()):=by
 show qy BIG _=_;rw [Sy,ah (by omega),ai,ah (by omega),ai];rfl
theorem Wj (x0 x1:Int) (L:List aD) (y:An) (hL:L.length<=1048576) (h1:y.2.2.1.length<=1048576) (h2:y.2.2.2.length<=1048576):tN (x0,x1,L,y)=some ((x0,x1,L,y),()):=by
 show I6 BIG _=_;rw [aho,ah (by simp only;omega),ai];simp only [lK y h1 h2,aa,List.nil_append]
theorem Zd {α S:Type} (st:S->α->S) (s:S) {l:List α} {i:Nat} (hi:i<l.length):(l.take (i+1)).foldl st s=st ((l.take i).foldl st s) l[i]:=by
 rw [List.take_succ_eq_append_getElem hi,List.foldl_append];rfl
abbrev ShV:=Int × Int × List aD × An
abbrev ObV:=Int × Int × List aD × Int × Bool × List Ed × List Int × Int × Bool × List Ed × List Int × Int
def cz (n:Nat) (E:List Ed) (v:Int):Nat:=(labs n E).count ((labs n E).getD v.toNat 0)
theorem ac5 (n:Nat) (L:List aD) (k:Int) (v:Int):cmp n L k v=cz n (aN L k) v:=rfl
def czL (n:Nat) (E:List Ed) (v:Int):List Nat:=(List.range n).filter fun i=>decide ((labs n E).getD i 0=(labs n E).getD v.toNat 0)
theorem GH (n:Nat) (E:List Ed) (v:Int):cz n E v=(czL n E v).length:=by
 unfold cz czL;rw [ak1,dD]
theorem ac6 (n:Nat) (E:List Ed) (v:Int):(czL n E v).Nodup:=(List.nodup_range (n:=n)).sublist List.filter_sublist
theorem ow {n:Nat} {E:List Ed} (hE:kR n E) {v:Int} (hv:0<=v/\v<n) (i:Nat):i∈czL n E v↔i<n/\Con E v i:=by
 unfold czL;rw [List.mem_filter,List.mem_range,decide_eq_true_eq];constructor
 ·rintro ⟨h1,h2⟩;have hl:=iP hE;have:=hl.iff (getD_at (show i<(labs n E).length by rw [dD];omega)) (getD_at (show v.toNat<(labs n E).length by rw [dD];omega));rw [Int.toNat_of_nonneg hv.1] at this;exact ⟨h1,(this.1 h2).symm⟩
 ·rintro ⟨h1,h2⟩;have hl:=iP hE;have:=hl.iff (getD_at (show i<(labs n E).length by rw [dD];omega)) (getD_at (show v.toNat<(labs n E).length by rw [dD];omega));rw [Int.toNat_of_nonneg hv.1] at this;exact ⟨h1,this.2 h2.symm⟩
theorem ara (n:Nat) (E:List Ed) (v:Int):cz n E v<=n:=by
 have:=List.count_le_length (a:=(labs n E).getD v.toNat 0) (l:=labs n E);rw [dD] at this;exact this
theorem kW {n:Nat} {E E':List Ed} (hE:kR n E) (hE':kR n E') {v w:Int} (hv:0<=v/\v<n) (hw:0<=w/\w<n) (h:∀x,Con E v x->Con E' w x):cz n E v<=cz n E' w:=by
 rw [GH,GH];refine jy _ _ (ac6 n E v) fun i hi => ?_
 obtain ⟨h1,h2⟩:=(ow hE hv i).1 hi;exact (ow hE' hw i).2 ⟨h1,h _ h2⟩
theorem aqy {n:Nat} {E E':List Ed} (hE:kR n E) (hE':kR n E') {v u w:Int} (hv:0<=v/\v<n) (hu:0<=u/\u<n) (hw:0<=w/\w<n) (h1:∀x,Con E v x->Con E' w x) (h2:∀x,Con E u x->Con E' w x) (hd:¬Con E v u):cz n E v+cz n E u<=cz n E' w:=by
 rw [GH,GH,GH,<-bq];refine jy _ _ (List.nodup_append.2 ⟨ac6 n E v,ac6 n E u,fun i hi j hj hij => ?_⟩) fun i hi => ?_
 ·subst hij;exact hd (((ow hE hv i).1 hi).2.trans ((ow hE hu i).1 hj).2.symm)
 ·rcases List.mem_append.1 hi with hi|hi
  ·obtain ⟨g1,g2⟩:=(ow hE hv i).1 hi;exact (ow hE' hw i).2 ⟨g1,h1 _ g2⟩
  ·obtain ⟨g1,g2⟩:=(ow hE hu i).1 hi;exact (ow hE' hw i).2 ⟨g1,h2 _ g2⟩
theorem aqz {n:Nat} {E:List Ed} (hE:kR n E) {v:Int} (hv:0<=v/\v<n):1<=cz n E v:=by
 rw [GH];exact List.length_pos_of_mem ((ow hE hv v.toNat).2 ⟨by omega,by rw [Int.toNat_of_nonneg hv.1];exact .refl _⟩)
theorem fD {L:List aD} {k:Int} {e:Ed}:e∈aN L k↔∃y,y∈L/\y.2.2.2=true/\k<=y.2.2.1/\(y.1,y.2.1)=e:=by
 unfold aN;simp only [List.mem_map,List.mem_filter,aG,decide_eq_true_eq,and_assoc]
theorem P_ {E:List Ed} {e:Ed} {r o:Int} (h:(r=e.1/\o=e.2)\/(r=e.2/\o=e.1)) {u v:Int}:Con (E++[e]) u v↔Con E u v\/(Con E u r/\Con E o v)\/(Con E u o/\Con E r v):=by
 obtain ⟨a,b⟩:=e;rw [Con.snoc];rcases h with ⟨rfl,rfl⟩|⟨rfl,rfl⟩
 ·exact Iff.rfl
 ·constructor
  ·rintro (h|h|h)
   ·exact .inl h
   ·exact .inr (.inr h)
   ·exact .inr (.inl h)
  ·rintro (h|h|h)
   ·exact .inl h
   ·exact .inr (.inr h)
   ·exact .inr (.inl h)
end Go.Fw
