/- What the given functions come to. No conditions. -/
import Derived.Test.YtjicinmnfkinhaaGreatM1
set_option linter.unusedSectionVars false
namespace Go.Fw
theorem aAH {n:Nat} {M:aa aL} {e:Ed} {k:Nat} (hI:Inv n M e (k:Int)) (k3:(k:Int)<=3) (ha:0<=e.1/\e.1<n) (hb:0<=e.2/\e.2<n) :
  ((sch n M e k).2=none->Inv n (sch n M e k).1 e ((k:Int)-1))/\((sch n M e k).2≠none->WOk n (sch n M e k).1):=by
 have oD:=abo n M e (k:Int)
 -- the lesser side
 have bz:((if cmp n M k e.2<cmp n M k e.1 then e.2 else e.1)=e.1/\(if cmp n M k e.2<cmp n M k e.1 then e.1 else e.2)=e.2)\/((if cmp n M k e.2<cmp n M k e.1 then e.2 else e.1)=e.2/\(if cmp n M k e.2<cmp n M k e.1 then e.1 else e.2)=e.1):=by
  by_cases h:cmp n M k e.2<cmp n M k e.1
  ·rw [if_pos h,if_pos h];exact .inr ⟨rfl,rfl⟩
  ·rw [if_neg h,if_neg h];exact .inl ⟨rfl,rfl⟩
 have rD:cz n (aX M k) (if cmp n M k e.2<cmp n M k e.1 then e.2 else e.1)<=cz n (aX M k) (if cmp n M k e.2<cmp n M k e.1 then e.1 else e.2):=by
  by_cases h:cmp n M k e.2<cmp n M k e.1
  ·rw [if_pos h,if_pos h];exact Nat.le_of_lt h
  ·rw [if_neg h,if_neg h];exact Nat.le_of_not_lt h
 have hlc:(if cmp n M k e.2<cmp n M k e.1 then dw n M k e.2 else dw n M k e.1)=dw n M k (if cmp n M k e.2<cmp n M k e.1 then e.2 else e.1):=by
  by_cases h:cmp n M k e.2<cmp n M k e.1
  ·rw [if_pos h,if_pos h]
  ·rw [if_neg h,if_neg h]
 unfold sch at oD ⊢;simp only at oD ⊢;rw [hlc,abm (abn _ _)] at oD ⊢;generalize (if cmp n M k e.2<cmp n M k e.1 then e.2 else e.1)=r at bz rD oD ⊢;generalize (if cmp n M k e.2<cmp n M k e.1 then e.1 else e.2)=o at bz rD;have hr:0<=r/\r<n:=by rcases bz with ⟨rfl,rfl⟩|⟨rfl,rfl⟩<;>assumption
 have hs:∀x:Int,0<=x/\x<n->((fun x=>decide (dw n M k x=dw n M k r)) x=true↔Con (aX M k) r x):=by
  intro x hx;simp only [decide_eq_true_eq];rw [lC hI.gr _ hx hr];exact ⟨fun h=>h.symm,fun h=>h.symm⟩
 generalize (fun x=>decide (dw n M k x=dw n M k r))=s at hs oD ⊢;have hf1:(M.map fun y=>if uS s k y=1 then o_ k y else y)=M.map (f1 s k):=rfl;rw [hf1] at oD ⊢;simp only at oD ⊢;unfold uR at oD ⊢;by_cases bZ:(M.map (f1 s k)).findIdx (fun y=>decide (jE s k y=2))<(M.map (f1 s k)).length
 ·rw [dif_pos bZ] at oD ⊢;refine ⟨(fun h=>absurd h (by simp)),fun _ => ?_⟩;have h2:=List.findIdx_getElem (w:=bZ);have sP:M.map (f1 s k)=(M.map (f1 s k)).take ((M.map (f1 s k)).findIdx fun y=>decide (jE s k y=2))++(M.map (f1 s k))[(M.map (f1 s k)).findIdx fun y=>decide (jE s k y=2)]::(M.map (f1 s k)).drop ((M.map (f1 s k)).findIdx (fun y=>decide (jE s k y=2))+1):=by
   conv=>lhs;rw [<-RX ((M.map (f1 s k)).findIdx fun y=>decide (jE s k y=2)) (M.map (f1 s k)),BX bZ]
  exact aw8 hI k3 ha hb bz rD hs sP rfl (by simpa using h2) oD
 ·rw [dif_neg bZ] at oD ⊢;refine ⟨fun _=>aw7 hI k3 ha hb bz rD hs rfl (fun y hy h => ?_) oD,fun h=>absurd rfl h⟩;refine bZ (List.findIdx_lt_length_of_exists ⟨y,hy,by simpa using h⟩)
theorem an8 {n:Nat} {e:Ed} (ha:0<=e.1/\e.1<n) (hb:0<=e.2/\e.2<n):∀(k:Nat) (M:aa aL),k<=4->Inv n M e ((k:Int)-1)->WOk n (Co n e k M).1/\gE (Co n e k M).1=gE M
 | 0,M,_,hI=>⟨hI.wok,rfl⟩
 | k+1,M,hk,hI=>by
  have W9:((k+1:Nat):Int)-1=(k:Int):=by omega
  rw [W9] at hI;obtain ⟨h1,h2⟩:=aAH hI (by omega) ha hb;unfold Co;split
  ·rename_i hn;obtain ⟨g1,g2⟩:=an8 ha hb k _ (by omega) (h1 hn);exact ⟨g1,g2.trans (abo ..)⟩
  ·rename_i hn;exact ⟨h2 (by rw [hn];simp),abo ..⟩
theorem Rp (L:aa aL) (p:Ed->Bool):gE (L.filter fun y=>p (y.1,y.2.1))=(gE L).filter p:=by
 unfold gE;rw [List.filter_map];rfl
theorem au3:∀{L:aa aL},(gE L).Nodup->∀{y z:aL},y∈L->z∈L->(y.1,y.2.1)=(z.1,z.2.1)->y=z
 | [],_,y,z,hy,_,_=>by cases hy
 | x::L,hn,y,z,hy,hz,he=>by
  have hn':((x.1,x.2.1)::gE L).Nodup:=hn;rw [oG] at hn';rcases aY.1 hy with rfl|uq
  ·rcases aY.1 hz with rfl|RB
   ·rfl
   ·exact absurd (cK.2 ⟨z,RB,he.symm⟩) hn'.1
  ·rcases aY.1 hz with rfl|RB
   ·exact absurd (cK.2 ⟨y,uq,he⟩) hn'.1
   ·exact au3 hn'.2 uq RB he
def aCs:aa Ed:=(List.range 12).flatMap fun (b:Nat)=>(List.range b).map fun (a:Nat)=>((a:Int),(b:Int))
theorem aw9:aCs.length=66:=by decide
theorem Rq {n:Nat} {es:aa Ed} (h:GrOk n es):es.length<=66:=by
 rw [<-aw9];refine mq _ _ (Rk h.2.2.1) fun x hx => ?_
 have:=il (h.2.2.2 x hx);have gT:=h.2.1;unfold aCs;rw [CY];refine ⟨x.2.toNat,jh.2 (by omega),cK.2 ⟨x.1.toNat,jh.2 (by omega),?_⟩⟩;rw [gV (by omega),gV (by omega)]
theorem abq {n:Nat} {es:aa Ed} (h:GrOk n es):mO n es=true:=by
 unfold mO;rw [show aS (n:Int) 1 12=true from aH.2 (by have:=h.1;have:=h.2.1;omega),Q3 h (Rq h)];rfl
theorem ars {n:Nat} {es:aa Ed} (h:mO n es=true) (h2:2<=n):GrOk n es:=by
 unfold mO at h;rw [aM,aH] at h;obtain ⟨h3,h4,_⟩:=o9 h.2;exact ⟨by omega,by omega,h4,h3⟩
theorem WOk.con {n:Nat} {L:aa aL} (hw:WOk n L) {y:aL} (hy:y∈L) (ht:y.2.2.2=false):Con (aX L y.2.2.1) y.1 y.2.1:=by
 have hr:=il ((l9 hw.gr).1 (y.1,y.2.1) (cK.2 ⟨y,hy,rfl⟩));exact (lC hw.gr _ ⟨hr.1,hr.2.1⟩ ⟨hr.2.2.1,hr.2.2.2.1⟩).1 (hw.un y hy ht)
theorem WOk.same {n:Nat} {L:aa aL} (hw:WOk n L) (u v:Int):Con (aX L 0) u v↔Con (gE L) u v:=by
 constructor
 ·intro h;exact h.mono fun e he=>(S9 L 0).subset he
 ·intro h;refine h.sub fun e he => ?_
  obtain ⟨y,hy,rfl⟩:=cK.1 he;have hl:=(hw.lv y hy).1;cases ht:y.2.2.2 with
  | true=>exact .of (iP.2 ⟨y,hy,ht,hl,rfl⟩)
  | false=>exact (hw.con hy ht).mono (v_ hl)
theorem WOk.labs {n:Nat} {L:aa aL} (hw:WOk n L):labs n (aX L 0)=labs n (gE L):=by
 have hE:pG n (gE L):=fun e he=>by
  have:=il ((l9 hw.gr).1 e he);exact ⟨this.1,this.2.1,this.2.2.1,this.2.2.2.1⟩
 exact (lw (mP hw.gr 0)).uniq (lw hE) hw.same
section
variable {n:Nat} {L:aa aL} (hw:WOk n L) {e:Ed}
include hw
theorem art {old:aL} (ho:old∈L) (Oe:(old.1,old.2.1)=e) :
  WOk n (if old.2.2.2=true then (Co n e (old.2.2.1.toNat+1) (L.filter fun y=>decide ((y.1,y.2.1)≠e))).1 else L.filter fun y=>decide ((y.1,y.2.1)≠e)) /\
  gE (if old.2.2.2=true then (Co n e (old.2.2.1.toNat+1) (L.filter fun y=>decide ((y.1,y.2.1)≠e))).1 else L.filter fun y=>decide ((y.1,y.2.1)≠e))=del (gE L) e:=by
 have bF:e∈gE L:=cK.2 ⟨old,ho,Oe⟩;obtain ⟨oD,hgn,hL6⟩:=l9 hw.gr;have lX:=il (oD e bF);have hgR:gE (L.filter fun y=>decide ((y.1,y.2.1)≠e))=del (gE L) e:=by
  rw [Rp L fun y=>decide (y≠e)];unfold del;congr 1;funext y;rw [decide_not]
 have hG:=ars hw.gr (by omega);have gY:mO n (gE (L.filter fun y=>decide ((y.1,y.2.1)≠e)))=true:=by
  rw [hgR];exact abq hG.del
 have hm:∀y,y∈(L.filter fun y=>decide ((y.1,y.2.1)≠e))↔y∈L/\(y.1,y.2.1)≠e:=fun y=>by
  rw [jT,decide_eq_true_eq]
 have gX:∀(j:Int) (f:Ed),f∈aX (L.filter fun y=>decide ((y.1,y.2.1)≠e)) j->f∈aX L j:=by
  intro j f hf;obtain ⟨y,hy,ht,hl,he⟩:=iP.1 hf;exact iP.2 ⟨y,((hm y).1 hy).1,ht,hl,he⟩
 have bv:∀(j:Int) (f:Ed),f∈aX (L.filter fun y=>decide ((y.1,y.2.1)≠e)) j->f≠e:=by
  intro j f hf;obtain ⟨y,hy,ht,hl,he⟩:=iP.1 hf;rw [<-he];exact ((hm y).1 hy).2
 have arT:∀(j:Int) (f:Ed),f∈aX L j->f≠e->f∈aX (L.filter fun y=>decide ((y.1,y.2.1)≠e)) j:=by
  intro j f hf hfe;obtain ⟨y,hy,ht,hl,he⟩:=iP.1 hf;exact iP.2 ⟨y,(hm y).2 ⟨hy,by rw [he];exact hfe⟩,ht,hl,he⟩
 have kg:∀j:Int,e∈aX L j->old.2.2.2=true/\j<=old.2.2.1:=by
  intro j hf;obtain ⟨y,hy,ht,hl,he⟩:=iP.1 hf;have:=au3 hgn hy ho (he.trans Oe.symm);subst this;exact ⟨ht,hl⟩
 generalize hR:(L.filter fun y=>decide ((y.1,y.2.1)≠e))=R at *
 have hnc:NoCyc (aX R 0):=hw.nc.sub fun f hf=>gX 0 f hf
 have dM:∀j:Nat,1<=j->j<=4->∀f,f∈aX R j->cz n (aX R j) f.1<=n / 2 ^ j:=by
  intro j j1 j4 f hf;have zo:=mP gY j f hf;exact kF (pq (mP gY j) (mP hw.gr j) ⟨zo.1,zo.2.1⟩ ⟨zo.1,zo.2.1⟩ fun x hx=>hx.mono fun g hg=>gX j g hg) (hw.sz j j1 j4 f (gX j f hf))
 cases ht:old.2.2.2 with
 | false=>
  rw [if_neg (by simp)];refine ⟨⟨gY,fun x hx=>hw.lv x ((hm x).1 hx).1,hnc,fun x hx RQ => ?_,dM⟩,hgR⟩;have hr:=il ((l9 gY).1 (x.1,x.2.1) (cK.2 ⟨x,hx,rfl⟩));refine (lC gY _ ⟨hr.1,hr.2.1⟩ ⟨hr.2.2.1,hr.2.2.2.1⟩).2 ((hw.con ((hm x).1 hx).1 RQ).mono fun f hf=>arT _ f hf ?_);rintro rfl;have:=(kg _ hf).1;rw [ht] at this;cases this
 | true=>
  rw [if_pos rfl];have lW:=hw.lv old ho;have arU:∀j:Int,j<=old.2.2.1->e∈aX L j:=fun j hj=>iP.2 ⟨old,ho,ht,hj,Oe⟩
  have h3:old.2.2.1<=3:=by
   apply CQ;intro gU;have h4:=hw.sz 4 (by omega) (by omega) e (arU _ (by omega));rw [ajT] at h4;have h5:=aCq (mP hw.gr ((4:Nat):Int)) (v:=e.1) ⟨lX.1,lX.2.1⟩;have h6:=(Rm hw.gr).2;have:n / 2 ^ 4=0:=Nat.div_eq_of_lt (by omega);omega
  have hI:Inv n R e (old.2.2.1.toNat:Int):=by
   rw [gV lW.1];refine ⟨gY,fun x hx=>hw.lv x ((hm x).1 hx).1,hnc,fun h => ?_,fun x hx RQ hk => ?_,fun x hx RQ hk => ?_,dM,fun j hj => ?_⟩
   ·exact hw.nc e (arU 0 lW.1) (h.mono fun f hf=>nU.2 ⟨gX 0 f hf,bv 0 f hf⟩)
   ·refine (hw.con ((hm x).1 hx).1 RQ).mono fun f hf=>arT _ f hf ?_
    rintro rfl;have:=(kg _ hf).2;omega
   ·refine (hw.con ((hm x).1 hx).1 RQ).mono fun f hf => ?_
    by_cases hfe:f=e
    ·exact jN _ (bY.2 hfe)
    ·exact jc _ (arT _ f hf hfe)
   ·have h1:cz n (aX R j++[e]) e.1<=cz n (aX L j) e.1:=by
     refine pq (fun f hf => ?_) (mP hw.gr j) ⟨lX.1,lX.2.1⟩ ⟨lX.1,lX.2.1⟩ fun x hx=>hx.mono fun f hf => ?_
     ·rcases bP.1 hf with h|h
      ·exact mP gY j f h
      ·rw [bY.1 h];exact ⟨lX.1,lX.2.1,lX.2.2.1,lX.2.2.2.1⟩
     ·rcases bP.1 hf with h|h
      ·exact gX j f h
      ·rw [bY.1 h];exact arU j hj
    by_cases j0:j=0
    ·subst j0;have:=aEl n (aX R ((0:Nat):Int)++[e]) e.1;simpa using this
    ·exact kF h1 (hw.sz j (by omega) (by omega) e (arU j hj))
  have:=an8 (n:=n) (e:=e) ⟨lX.1,lX.2.1⟩ ⟨lX.2.2.1,lX.2.2.2.1⟩ (old.2.2.1.toNat+1) R (by omega) (by rw [show ((old.2.2.1.toNat+1:Nat):Int)-1=(old.2.2.1.toNat:Int) from by omega];exact hI);exact ⟨this.1,this.2.trans hgR⟩
theorem au4 (he:fD n e=true) (bv:e∉gE L) :
  WOk n (L.filter (fun y=>lsB (y.1,y.2.1) e)++[(e.1,e.2,0,!decide (dw n L 0 e.1=dw n L 0 e.2))]++L.filter (fun y=>lsB e (y.1,y.2.1))) /\
  gE (L.filter (fun y=>lsB (y.1,y.2.1) e)++[(e.1,e.2,0,!decide (dw n L 0 e.1=dw n L 0 e.2))]++L.filter (fun y=>lsB e (y.1,y.2.1)))=ins (gE L) e:=by
 have lX:=il he;have hG:=ars hw.gr (by omega);have hgR:gE (L.filter (fun y=>lsB (y.1,y.2.1) e)++[(e.1,e.2,0,!decide (dw n L 0 e.1=dw n L 0 e.2))]++L.filter (fun y=>lsB e (y.1,y.2.1)))=ins (gE L) e:=by
  have h1:=Rp L fun y=>lsB y e
  have h2:=Rp L fun y=>lsB e y
  unfold ins;rw [<-h1,<-h2];unfold gE;simp only [wV,bf,bQ]
 have hm:∀y,y∈(L.filter (fun y=>lsB (y.1,y.2.1) e)++[(e.1,e.2,0,!decide (dw n L 0 e.1=dw n L 0 e.2))]++L.filter (fun y=>lsB e (y.1,y.2.1)))↔y=(e.1,e.2,0,!decide (dw n L 0 e.1=dw n L 0 e.2))\/y∈L:=by
  intro y;simp only [bP,jT,bY];constructor
  ·rintro ((h|h)|h)
   ·exact .inr h.1
   ·exact .inl h
   ·exact .inr h.1
  ·rintro (h|h)
   ·exact .inl (.inr h)
   ·cases h1:lsB (y.1,y.2.1) e with
    | true=>exact .inl (.inl ⟨h,rfl⟩)
    | false=>
     cases h2:lsB e (y.1,y.2.1) with
     | true=>exact .inr ⟨h,rfl⟩
     | false=>exact absurd (cK.2 ⟨y,h,acK h1 h2⟩) bv
 have gY:mO n (gE (L.filter (fun y=>lsB (y.1,y.2.1) e)++[(e.1,e.2,0,!decide (dw n L 0 e.1=dw n L 0 e.2))]++L.filter (fun y=>lsB e (y.1,y.2.1))))=true:=by
  rw [hgR];exact abq (hG.ins he)
 generalize (L.filter (fun y=>lsB (y.1,y.2.1) e)++[(e.1,e.2,0,!decide (dw n L 0 e.1=dw n L 0 e.2))]++L.filter (fun y=>lsB e (y.1,y.2.1)))=R at hgR hm gY ⊢;have sQ:∀(j:Int) (f:Ed),f∈aX R j↔f∈aX L j\/(f=e/\dw n L 0 e.1≠dw n L 0 e.2/\j<=0):=by
  intro j f;rw [iP,iP];constructor
  ·rintro ⟨y,hy,ht,hl,hf⟩;rcases (hm y).1 hy with rfl|hy
   ·simp only [pU,decide_eq_false_iff_not] at ht hl hf;exact .inr ⟨hf.symm,ht,hl⟩
   ·exact .inl ⟨y,hy,ht,hl,hf⟩
  ·rintro (⟨y,hy,ht,hl,hf⟩|⟨rfl,ht,hl⟩)
   ·exact ⟨y,(hm y).2 (.inr hy),ht,hl,hf⟩
   ·exact ⟨_,(hm _).2 (.inl rfl),by simp [ht],hl,rfl⟩
 have mQ:=lC hw.gr 0 (u:=e.1) (v:=e.2) ⟨lX.1,lX.2.1⟩ ⟨lX.2.2.1,lX.2.2.2.1⟩;refine ⟨⟨gY,fun x hx => ?_,?_,fun x hx RQ => ?_,fun j j1 j4 f hf => ?_⟩,hgR⟩
 ·rcases (hm x).1 hx with rfl|hx
  ·simp
  ·exact hw.lv x hx
 ·by_cases hc:dw n L 0 e.1=dw n L 0 e.2
  ·refine hw.nc.sub fun f hf => ?_
   rcases (sQ 0 f).1 hf with h|h
   ·exact h
   ·exact absurd hc h.2.1
  ·refine (abk hw.nc (fun h=>hc (mQ.2 h))).sub fun f hf => ?_
   rcases (sQ 0 f).1 hf with h|h
   ·exact jc _ h
   ·exact jN _ (bY.2 h.1)
 ·have hr:=il ((l9 gY).1 (x.1,x.2.1) (cK.2 ⟨x,hx,rfl⟩));refine (lC gY _ ⟨hr.1,hr.2.1⟩ ⟨hr.2.2.1,hr.2.2.2.1⟩).2 ?_;rcases (hm x).1 hx with rfl|hx
  ·simp only [Bool.not_eq_false',decide_eq_true_eq] at RQ;exact (mQ.1 RQ).mono fun f hf=>(sQ 0 f).2 (.inl hf)
  ·exact (hw.con hx RQ).mono fun f hf=>(sQ _ f).2 (.inl hf)
 ·have kH:f∈aX L j:=by
   rcases (sQ j f).1 hf with h|h
   ·exact h
   ·have:=h.2.2;omega
  have zo:=mP gY j f hf;rw [ajT];refine kF (pq (mP gY j) (mP hw.gr j) ⟨zo.1,zo.2.1⟩ ⟨zo.1,zo.2.1⟩ fun x hx=>hx.mono fun g hg => ?_) (hw.sz j j1 j4 f kH);rcases (sQ j g).1 hg with h|h
  ·exact h
  ·have:=h.2.2;omega
end
theorem an9 {n:Nat} {E:aa Ed} (h:pG n E):vW (n:Int) (labs n E)=true:=by
 have hL:=lw h;unfold vW;rw [if_pos (by rw [gp]),if_pos];intro i hi;have hg:=aZ hi;unfold NN;rw [hg];simp only;have h1:=hL.le hg;have h2:=hL.lt hg;rw [hL.self hg,aH.2 (by omega)];simp
def BL (v:Int) (y:Ed):Bool:=decide (y.1=v\/y.2=v)
structure ShR (x0:Int) (n:Nat) (L:List aL) (y:An):Prop where
 id:1<=x0/\x0<=3
 web:WOk n L
 an:ze y=true\/je n y=true/\y.2.2.2=labs n (aX L 0)
theorem ShR.len {x0:Int} {n:Nat} {L:aa aL} {y:An} (h:ShR x0 n L y):L.length<=66/\y.2.2.1.length<=66/\y.2.2.2.length<=12/\0<=y.1/\y.1<=100000:=by
 have h1:=(l9 h.web.gr).2.2;have gT:=(Rm h.web.gr).2;rcases h.an with hb|⟨ha,hl⟩
 ·unfold ze at hb;simp only [aM,pU,decide_eq_true_eq] at hb;omega
 ·unfold je at ha;simp only [aM] at ha;have h2:=aH.1 ha.2.1;have h3:=g_ ha.2.2.1;rw [hl,gp];omega
def aGf:Int × Int × aa aL × Int × Bool × aa Ed × aa Int × Int × Bool × aa Ed × aa Int × Int:=((0:Int),(0:Int),[],(0:Int),false,[],[],(0:Int),false,[],[],(1:Int))
def ME (x0:Int) (n:Int) (L:aa aL) (y:An):Int × Int × aa aL × Int × Bool × aa Ed × aa Int × Int × Bool × aa Ed × aa Int × Int:=(x0,n,L,y.1,y.2.1,y.2.2.1,y.2.2.2,y.1,y.2.1,y.2.2.1,y.2.2.2,(0:Int))
structure Dne (n:Nat) (L L':List aL) (o:qw) (y:An):Prop where
 num:y.1=o.1
 lab:y.2.2.2=labs n (aX L' 0)
 add:o.2.1=1\/o.2.1=4->(∀x,x∈gE L'↔x∈gE L\/x∈o.2.2.1)/\((∀z,z∈o.2.2.1->z∉gE L)->y.2.1=true)/\y.2.2.1=[]/\∀e,o.2.2.1=[e]->y.2.1 = !decide (e∈gE L)
 take:o.2.1=2->∃e,o.2.2.1=[e]/\gE L'=del (gE L) e/\y.2.1=decide (e∈gE L)/\y.2.2.1=[]
 rel:o.2.1=3->(∀x,x∈gE L'↔x∈gE L/\BL o.2.2.2 x=false)/\y.2.1=true/\y.2.2.1=(gE L).filter (BL o.2.2.2)/\(y.2.2.1=[]->L'=L)
theorem aAI {n:Nat} (h1:1<=n) (h2:n<=12):WOk n []:=
 ⟨by
  unfold mO
  rw [aH.2 (by omega),gz]
  unfold mM
  rw [if_pos (fun i hi=>absurd hi (by simp [gE]))]
  rfl,fun x hx=>(by cases hx),fun e he=>(by cases he),fun x hx=>(by cases hx),fun k _ _ e he=>(by cases he)⟩
theorem aCt {n:Nat} {x0:Int} (h0:1<=x0/\x0<=3) (h1:1<=n) (h2:n<=12):ShR x0 n [] (0,false,[],[]):=⟨h0,aAI h1 h2,.inl rfl⟩
theorem au5 {T A R s:aa UInt8} (hs:s.length<=300) (hT:T=A++(vB s.length++(s++R))):j_ T (A.length,false)=(s,(A.length+(vB s.length).length+s.length,false)):=by
 unfold j_;rw [yK (v:=s.length) (by omega) hT];unfold tkS;simp only;have hd:T.drop (A.length+(vB s.length).length)=s++R:=by
  rw [hT,<-fJ,<-bq,Ka]
 have hl:A.length+(vB s.length).length+s.length<=T.length:=by
  rw [hT];simp only [bq];omega
 simp only [eH,hd,C8];simp;omega
theorem au6 {n:Int} {r:Rc} {T:aa UInt8} (h:jv n r=some T):rcD n T=some r:=by
 have key:(pJ n T).1.2=false/\(pJ n T).2=r:=by
  obtain ⟨k,a,b,c,d,sh,an0,an1,an2,an3,o0,o1,o2,o3⟩:=r;unfold jv at h;simp only at h;by_cases k1:k=1
  ·rw [if_pos k1] at h;split at h;case isFalse=>cases h
   case isTrue hc=>
   simp only [aM,decide_eq_true_eq,ze,yF,pU,nz] at hc;obtain ⟨⟨uo,⟨x0,x1,x2,x3⟩,y0,y1,y2,y3⟩,i1,i2,i3,i4⟩:=hc;have i1:=aH.1 i1;have i2:=aH.1 i2;have i3:=aH.1 i3;have i4:=aH.1 i4;rw [aK] at h;subst k1 uo x0 x1 x2 x3 y0 y1 y2 y3;have BM:T=[]++((1:UInt8)::(vB a.toNat++vB b.toNat++vB c.toNat++vB d.toNat)):=by rw [<-h];simp
   have zn:T=[1]++(vB a.toNat++(vB b.toNat++vB c.toNat++vB d.toNat)):=by rw [<-h];simp
   have J3:T=([1]++vB a.toNat)++(vB b.toNat++(vB c.toNat++vB d.toNat)):=by rw [<-h];simp
   have hT3:T=([1]++vB a.toNat++vB b.toNat)++(vB c.toNat++vB d.toNat):=by rw [<-h];simp
   have hT4:T=([1]++vB a.toNat++vB b.toNat++vB c.toNat)++(vB d.toNat++[]):=by rw [<-h];simp
   have e0:on T (0,false)=(1,(1,false)):=by simpa using G_ BM
   have e1:=yK (v:=a.toNat) (by omega) zn;have e2:=yK (v:=b.toNat) (by omega) J3;have e3:=yK (v:=c.toNat) (by omega) hT3;have e4:=yK (v:=d.toNat) (by omega) hT4;simp only [bq,bA,bB,cB] at e1 e2 e3 e4;unfold pJ;simp only [e0,e1,e2,e3,e4,gV i1.1,gV i2.1,gV i3.1,gV i4.1];exact ⟨rfl,rfl⟩
  ·rw [if_neg k1] at h;by_cases k2:k=2
   ·rw [if_pos k2] at h;split at h;case isFalse=>cases h
    case isTrue hc=>
    simp only [aM,decide_eq_true_eq,CE,yF,nz] at hc;obtain ⟨⟨⟨x0,x1,x2,x3⟩,⟨y0,y1,y2,y3⟩,i1⟩,ha⟩:=hc;have i1:=aH.1 i1;have qA:=Q9 ha;rw [aK] at h;subst k2 x0 x1 x2 x3 y0 y1 y2 y3;have BM:T=[]++((2:UInt8)::(vB sh.toNat++(vB (aT (an0,an1,an2,an3)).length++aT (an0,an1,an2,an3)))):=by rw [<-h];simp
    have zn:T=[2]++(vB sh.toNat++(vB (aT (an0,an1,an2,an3)).length++aT (an0,an1,an2,an3))):=by rw [<-h]
    have J3:T=([2]++vB sh.toNat)++(vB (aT (an0,an1,an2,an3)).length++(aT (an0,an1,an2,an3)++[])):=by rw [<-h];simp
    have e0:on T (0,false)=(2,(1,false)):=by simpa using G_ BM
    have e1:=yK (v:=sh.toNat) (by omega) zn;have e2:=au5 qA J3;simp only [bq,bA,bB,cB] at e1 e2;unfold pJ;simp only [e0,e1,e2,aCn ha,gV i1.1];exact ⟨rfl,rfl⟩
   ·rw [if_neg k2] at h;split at h;case isFalse=>cases h
    case isTrue k3=>
    split at h;case isFalse=>cases h
    case isTrue hc=>
    simp only [aM,decide_eq_true_eq,CE,ze,pU,nz] at hc;obtain ⟨⟨⟨x0,x1,x2,x3⟩,uo,y0,y1,y2,y3⟩,ho⟩:=hc;have hol:=Q8 ho;rw [aK] at h;subst k3 x0 x1 x2 x3 uo y0 y1 y2 y3;have BM:T=[]++((3:UInt8)::(vB (oT (o0,o1,o2,o3)).length++oT (o0,o1,o2,o3))):=by rw [<-h];simp
    have zn:T=[3]++(vB (oT (o0,o1,o2,o3)).length++(oT (o0,o1,o2,o3)++[])):=by rw [<-h];simp
    have e0:on T (0,false)=(3,(1,false)):=by simpa using G_ BM
    have e1:=au5 hol zn;simp only [bq,bA,bB,cB] at e1;unfold pJ;simp only [e0,e1,aCm ho];exact ⟨rfl,rfl⟩
 unfold rcD;rw [key.2,if_pos ⟨key.1,h⟩]
theorem au7 (l:aa Sd) (x:Sd) (k:Int):sA (l++[x]) k=if 0<=sA l k then sA l k else if x.1=k then (l.length:Int) else -1:=by
 unfold sA;rw [List.findIdx_append,bq];by_cases h:l.findIdx (fun y=>decide (y.1=k))<l.length
 ·have h':l.findIdx (fun y=>decide (y.1=k))<l.length+[x].length:=by omega
  simp only [if_pos h,if_pos h'];rw [if_pos (by omega)]
 ·simp only [if_neg h];rw [if_neg (show ¬(0:Int)<=-1 from by decide)];by_cases hx:x.1=k
  ·have h0:[x].findIdx (fun y=>decide (y.1=k))=0:=by simp [R5,hx]
   rw [h0,if_pos hx,if_pos (by simp only [bA,bB];omega)];omega
  ·have h0:[x].findIdx (fun y=>decide (y.1=k))=1:=by simp [R5,hx]
   rw [h0,if_neg hx,if_neg (by simp only [bA,bB];omega)]
theorem an_ {l:aa Sd} {i op a b v:Int} (h:NQ l) (hi:sA l i<0) (hv:1<=v/\v<=3):NQ (l++[(i,i,op,a,b,v)]):=by
 intro j hj;rw [bq] at hj;simp only [bA,bB] at hj;unfold p4 p4c;by_cases uX:j<l.length
 ·have h1:=h j uX;unfold p4 p4c at h1;have hg:(l++[(i,i,op,a,b,v)]).getD j (0,0,0,0,0,0)=l.getD j (0,0,0,0,0,0):=by
   rw [dA,dA,rH uX]
  rw [hg];simp only [aM,decide_eq_true_eq] at h1 ⊢;refine ⟨h1.1,h1.2.1,?_⟩;rw [au7,if_pos (by omega)];exact h1.2.2
 ·have aG5:j=l.length:=by omega
  subst aG5;have hg:(l++[(i,i,op,a,b,v)]).getD l.length (0,0,0,0,0,0)=(i,i,op,a,b,v):=by
   rw [dA,vE (dV _),A9];rfl
  rw [hg];simp only [aM,decide_eq_true_eq];refine ⟨trivial,aH.2 hv,?_⟩;rw [au7,if_neg (by omega),if_pos rfl]
theorem Fz {α:Type} (l:aa α) (i j:Nat) (x d:α) (hi:i<l.length):(l.set i x).getD j d=if j=i then x else l.getD j d:=by
 rw [dA,dA,CW];by_cases h:i=j
 ·subst h;rw [if_pos rfl,if_pos hi,if_pos rfl];rfl
 ·rw [if_neg h,if_neg (fun h'=>h h'.symm)]
abbrev zg:=List aL × An
structure Ply (n:Nat) (own:List Int) (cuts:List Ed) (lab:List (List Int)) (nums:List Int) (said:List Sd) (ss:List zg) (g:List Ed) (c:Nat):Prop where
 n2:2<=n/\n<=12
 k:1<=ss.length/\ss.length<=3/\lab.length=ss.length/\nums.length=ss.length
 owr:own.length=n/\∀v:Int,0<=v/\v<n->1<=own.getD v.toNat 0/\own.getD v.toNat 0<=ss.length
 cgr:GrOk n cuts
 cut:∀e,e∈cuts->own.getD e.1.toNat 0≠own.getD e.2.toNat 0
 sh:∀(j:Nat) (L:List aL) (y:An),ss[j]?=some (L,y)->ShR ((j:Int)+1) n L y/\nums.getD j 0=y.1/\y.1<=c/\lab.getD j []=labs n (gE L)/\∀e,e∈gE L->own.getD e.1.toNat 0=(j:Int)+1/\own.getD e.2.toNat 0=(j:Int)+1
 gr:GrOk n g
 gin:∀e,e∈g↔e∈cuts\/∃(j:Nat) (L:List aL) (y:An),ss[j]?=some (L,y)/\e∈gE L
 sdo:NQ said/\said.length<=c
section
variable {n:Nat} {own:aa Int} {cuts:aa Ed} {lab:aa (aa Int)} {nums:aa Int} {said:aa Sd} {ss:aa zg} {g:aa Ed} {c:Nat}
theorem Ply.at (h:Ply n own cuts lab nums said ss g c) {s:Int} (h1:1<=s/\s<=ss.length):∃L y,ss[(s-1).toNat]?=some (L,y):=by
 have hl:(s-1).toNat<ss.length:=by omega
 exact ⟨_,_,aZ hl⟩
theorem Td {x0:Int} {L:aa aL} {y:An} (h:ShR x0 n L y):pG n (gE L):=fun e he=>by
 have:=il ((l9 h.web.gr).1 e he)
 exact ⟨this.1,this.2.1,this.2.2.1,this.2.2.2.1⟩
theorem Ply.hd (h:Ply n own cuts lab nums said ss g c) (hc:c<=80) {t:Bool} (ht:t=true):CK n own cuts lab nums said t=true:=by
 obtain ⟨k1,k2,k3,k4⟩:=h.k;have hn:=h.n2;unfold CK;rw [decide_eq_true_eq];refine ⟨⟨aH.2 (by omega),aH.2 (by omega),by omega⟩,fun i hi => ?_,⟨by rw [h.owr.1],Q3 h.cgr (Rq h.cgr)⟩,fun i hi => ?_,fun i hi => ?_,⟨h.sdo.1,by have:=h.sdo.2;omega⟩,ht⟩
 ·have hl:i<ss.length:=by omega
  obtain ⟨s1,s2,s3,s4,_⟩:=h.sh i _ _ (aZ hl);have h0:=s1.len.2.2.2.1;unfold p3;rw [s4,s2,an9 (Td s1),aH.2 (by omega)];rfl
 ·rw [h.owr.1] at hi;have:=h.owr.2 (i:Int) (by omega);rw [eH] at this;unfold p1;exact aH.2 (by omega)
 ·unfold p2;have e:cuts.getD i (0,0)=cuts[i]:=by rw [dA,aZ hi];rfl
  rw [e,aD (h.cut _ (u6 hi))];rfl
theorem Ply.one (h:Ply n own cuts lab nums said ss g c) {e:Ed} {s:Int} (h1:own.getD e.1.toNat 0=s) (h2:own.getD e.2.toNat 0=s) {L:aa aL} {y:An} (hs:ss[(s-1).toNat]?=some (L,y)) (s1:1<=s):e∈g↔e∈gE L:=by
 rw [h.gin];constructor
 ·rintro (hc|⟨j,L',y',hj,he⟩)
  ·exact absurd (h1.trans h2.symm) (h.cut e hc)
  ·have:=(h.sh j L' y' hj).2.2.2.2 e he;have ut:j=(s-1).toNat:=by omega
   subst ut;rw [hs] at hj;cases hj;exact he
 ·intro he;exact .inr ⟨_,_,_,hs,he⟩
theorem Ply.two (h:Ply n own cuts lab nums said ss g c) {e:Ed} (h1:own.getD e.1.toNat 0≠own.getD e.2.toNat 0):e∈g↔e∈cuts:=by
 rw [h.gin];constructor
 ·rintro (hc|⟨j,L',y',hj,he⟩)
  ·exact hc
  ·have:=(h.sh j L' y' hj).2.2.2.2 e he;exact absurd (this.1.trans this.2.symm) h1
 ·exact .inl
theorem Ply.onw (h:Ply n own cuts lab nums said ss g c) {said':aa Sd} (hs:NQ said'/\said'.length<=c+1):Ply n own cuts lab nums said' ss g (c+1):=
 ⟨h.n2,h.k,h.owr,h.cgr,h.cut,fun j L y hj=>by
  obtain ⟨s1,s2,s3,s4,s5⟩:=h.sh j L y hj
  exact ⟨s1,s2,by omega,s4,s5⟩,h.gr,h.gin,hs⟩
theorem Ply.upd (h:Ply n own cuts lab nums said ss g c) {s:Int} (lH:1<=s) {L L':aa aL} {y z:An} (hs:ss[(s-1).toNat]?=some (L,y)) (hR:ShR s n L' z) (hz:z.1=y.1+1) (hl:z.2.2.2=labs n (gE L'))
  {own':aa Int} (ho:own'.length=n/\∀v:Int,0<=v/\v<n->1<=own'.getD v.toNat 0/\own'.getD v.toNat 0<=ss.length) {cuts':aa Ed} (hc:GrOk n cuts') (axD:∀e,e∈cuts'->own'.getD e.1.toNat 0≠own'.getD e.2.toNat 0)
  (hL:∀e,e∈gE L'->own'.getD e.1.toNat 0=s/\own'.getD e.2.toNat 0=s)
  (W_:∀(j:Nat) (M:aa aL) (w:An),j≠(s-1).toNat->ss[j]?=some (M,w)->∀e,e∈gE M->own'.getD e.1.toNat 0=(j:Int)+1/\own'.getD e.2.toNat 0=(j:Int)+1)
  {g':aa Ed} (gY:GrOk n g') (hg:∀e,e∈g'↔e∈cuts'\/e∈gE L'\/∃(j:Nat) (M:aa aL) (w:An),j≠(s-1).toNat/\ss[j]?=some (M,w)/\e∈gE M)
  {said':aa Sd} (FP:NQ said'/\said'.length<=c+1) :
  Ply n own' cuts' (lab.set (s-1).toNat z.2.2.2) (nums.set (s-1).toNat z.1) said' (ss.set (s-1).toNat (L',z)) g' (c+1):=by
 obtain ⟨k1,k2,k3,k4⟩:=h.k;have bZ:=(bn hs).1;refine ⟨h.n2,by simp only [rM];omega,by rw [rM];exact ho,hc,axD,fun j M w hj => ?_,gY,fun e => ?_,FP⟩
 ·rw [CW] at hj;by_cases ut:(s-1).toNat=j
  ·subst ut;rw [if_pos rfl,if_pos bZ] at hj;cases hj;have he:(((s-1).toNat:Nat):Int)+1=s:=by omega
   rw [he,Fz _ _ _ _ _ (by omega),Fz _ _ _ _ _ (by omega),if_pos rfl,if_pos rfl];have:=(h.sh _ _ _ hs).2.2.1;exact ⟨hR,rfl,by omega,hl,hL⟩
  ·rw [if_neg ut] at hj;rw [Fz _ _ _ _ _ (by omega),Fz _ _ _ _ _ (by omega),if_neg (fun h=>ut h.symm),if_neg (fun h=>ut h.symm)];obtain ⟨s1,s2,s3,s4,s5⟩:=h.sh j M w hj;exact ⟨s1,s2,by omega,s4,W_ j M w (fun h=>ut h.symm) hj⟩
 ·rw [hg];constructor
  ·rintro (h1|h1|⟨j,M,w,hj,hm,he⟩)
   ·exact .inl h1
   ·exact .inr ⟨(s-1).toNat,L',z,by rw [CW,if_pos rfl,if_pos bZ],h1⟩
   ·exact .inr ⟨j,M,w,by rw [CW,if_neg (fun h=>hj h.symm)];exact hm,he⟩
  ·rintro (h1|⟨j,M,w,hj,he⟩)
   ·exact .inl h1
   ·rw [CW] at hj;by_cases ut:(s-1).toNat=j
    ·rw [if_pos ut,if_pos bZ] at hj;cases hj;exact .inr (.inl he)
    ·rw [if_neg ut] at hj;exact .inr (.inr ⟨j,M,w,fun h=>ut h.symm,hj,he⟩)
end
inductive Pnd (n:Nat) (own:List Int) (cuts:List Ed) (lab:List (List Int)) (nums:List Int) (said:List Sd) (ss:List zg) (g:List Ed) (c:Nat):Int->Int->Int->Int->Int->Int->Int->List Ed->Int->Prop
 | idle (h:Ply n own cuts lab nums said ss g c):Pnd n own cuts lab nums said ss g c 0 0 0 0 0 0 0 [] 0
 | chg {i op a b:Int} (h:Ply n own cuts lab nums said ss g c) (hi:aS i 1 100000=true) (hs:sA said i<0) (ho:op=1\/op=2) (ha:0<=a/\a<n) (hb:0<=b/\b<n) (eY:a≠b) (hw:own.getD a.toNat 0=own.getD b.toNat 0) :
   Pnd n own cuts lab nums said ss g c i op a b (own.getD a.toNat 0) (nums.getD (own.getD a.toNat 0-1).toNat 0+1) op [iq a b] 0
 | rel {i a b:Int} (h:Ply n own cuts lab nums said ss g c) (hi:aS i 1 100000=true) (hs:sA said i<0) (ha:0<=a/\a<n) (hb:1<=b/\b<=ss.length) (hw:own.getD a.toNat 0≠b) :
   Pnd n own cuts lab nums said ss g c i 4 a b (own.getD a.toNat 0) (nums.getD (own.getD a.toNat 0-1).toNat 0+1) 3 [] a
 | acc {i a b:Int} {es g':List Ed} (h:Ply n own cuts lab nums said ss g' c) (hi:aS i 1 100000=true) (hs:sA said i<0) (ha:0<=a/\a<n) (hb:1<=b/\b<=ss.length) (sO:GrOk n es/\es≠[]) (bF:∀e,e∈es->own.getD e.1.toNat 0=b/\own.getD e.2.toNat 0=b/\e∉g') (gY:GrOk n g) (hg:∀e,e∈g↔e∈g'\/e∈es) :
   Pnd n own cuts lab nums said ss g c i 4 a b b (nums.getD (b-1).toNat 0+1) 4 es 0
section
variable {n:Nat} {own:aa Int} {cuts:aa Ed} {lab:aa (aa Int)} {nums:aa Int} {said:aa Sd} {ss:aa zg} {g:aa Ed} {c:Nat} {x5 x6 x7 x8 x9 x10 x11:Int} {x12:aa Ed} {x13:Int}
theorem Pnd.ply (h:Pnd n own cuts lab nums said ss g c x5 x6 x7 x8 x9 x10 x11 x12 x13):∃g',Ply n own cuts lab nums said ss g' c:=by
 cases h with
 | idle h=>exact ⟨_,h⟩
 | chg h=>exact ⟨_,h⟩
 | rel h=>exact ⟨_,h⟩
 | acc h=>exact ⟨_,h⟩
theorem ajW {o:qw} (hn:2<=n/\n<=12) (h1:1<=o.1/\o.1<=100000) (h2:(o.2.1=1\/o.2.1=2)/\o.2.2.1.length=1/\o.2.2.2=0\/o.2.1=3/\o.2.2.1=[]/\(0<=o.2.2.2/\o.2.2.2<n)\/o.2.1=4/\o.2.2.1≠[]/\o.2.2.2=0) (hg:GrOk n o.2.2.1):jQ n o=true:=by
 unfold jQ;rw [aH.2 (by omega),aH.2 h1,aH.2 (by omega),Q3 hg (Rq hg)];rcases h2 with ⟨h2,h3,h4⟩|⟨h2,h3,h4⟩|⟨h2,h3,h4⟩
 ·rw [if_neg (by omega),if_neg (by omega),ak h3,ak h4];rfl
 ·rw [if_pos h2,ak (by rw [h3];rfl),aH.2 (by omega)];rfl
 ·rw [if_neg (by omega),if_pos h2,ak (List.length_pos_iff.2 h3),ak h4];rfl
theorem Rs {a b:Int} (hn:2<=n/\n<=12) (ha:0<=a/\a<n) (hb:0<=b/\b<n) (eY:a≠b):fD n (iq a b)=true:=by
 unfold iq fD;split
 ·rw [aH.2 (by omega),aH.2 (by simp only;omega),aH.2 (by simp only;omega),ak (by assumption)];rfl
 ·rw [aH.2 (by omega),aH.2 (by simp only;omega),aH.2 (by simp only;omega),ak (by simp only;omega)];rfl
theorem aCu {e:Ed} (hn:2<=n/\n<=12) (he:fD n e=true):GrOk n [e]:=
 ⟨by omega,by omega,List.pairwise_singleton _ _,fun x hx=>by rw [bY.1 hx];exact he⟩
theorem ajX (hn:2<=n/\n<=12):GrOk n []:=⟨by omega,by omega,List.Pairwise.nil,fun x hx=>by cases hx⟩
theorem Pnd.ord (h:Pnd n own cuts lab nums said ss g c x5 x6 x7 x8 x9 x10 x11 x12 x13) (h9:x9≠0) (hc:c<=80) :
  (1<=x9/\x9<=ss.length)/\∃L y,ss[(x9-1).toNat]?=some (L,y)/\jQ n (x10,x11,x12,x13)=true/\x10=y.1+1/\x10=nums.getD (x9-1).toNat 0+1:=by
 have num:∀{g'} (hP:Ply n own cuts lab nums said ss g' c) {s:Int},1<=s/\s<=ss.length->∃L y,ss[(s-1).toNat]?=some (L,y)/\nums.getD (s-1).toNat 0=y.1/\0<=y.1/\y.1<=c:=by
  intro g' hP s hs;obtain ⟨L,y,hy⟩:=hP.at hs;obtain ⟨s1,s2,s3,_⟩:=hP.sh _ _ _ hy;exact ⟨L,y,hy,s2,s1.len.2.2.2.1,s3⟩
 cases h with
 | idle h=>exact absurd rfl h9
 | chg h hi hs ho ha hb eY hw=>
  have hr:=h.owr.2 _ ha;obtain ⟨L,y,hy,y1,y2,y3⟩:=num h hr;exact ⟨hr,L,y,hy,ajW h.n2 (by simp only;omega) (.inl ⟨ho,rfl,rfl⟩) (aCu h.n2 (Rs h.n2 ha hb eY)),by omega,rfl⟩
 | rel h hi hs ha hb hw=>
  have hr:=h.owr.2 _ ha;obtain ⟨L,y,hy,y1,y2,y3⟩:=num h hr;exact ⟨hr,L,y,hy,ajW h.n2 (by simp only;omega) (.inr (.inl ⟨rfl,rfl,ha⟩)) (ajX h.n2),by omega,rfl⟩
 | acc h hi hs ha hb sO bF gY hg=>
  obtain ⟨L,y,hy,y1,y2,y3⟩:=num h hb;exact ⟨hb,L,y,hy,ajW h.n2 (by simp only;omega) (.inr (.inr ⟨rfl,sO.2,rfl⟩)) sO.1,by omega,rfl⟩
theorem aru {k:Nat} {op a b:Int} (h:(op=1\/op=2)/\(0<=a/\a<n)/\(0<=b/\b<n)/\a≠b\/op=4/\(0<=a/\a<n)/\(1<=b/\b<=k)):CJ n k op a b=true:=by
 unfold CJ;rcases h with ⟨h1,h2,h3,h4⟩|⟨h1,h2,h3⟩
 ·rw [aH.2 (by omega),aH.2 (by omega),aD (by omega),az,aH.2 (by omega),aD h4];rfl
 ·rw [aH.2 (by omega),aH.2 (by omega),ak h1,au,aH.2 (by omega)];rfl
theorem Pnd.tk (h:Pnd n own cuts lab nums said ss g c x5 x6 x7 x8 x9 x10 x11 x12 x13) (hc:c<=80):Fv n lab.length nums said x5 x6 x7 x8 x9 (x10,x11,x12,x13)=true:=by
 unfold Fv;by_cases h9:x9=0
 ·have:tB x5 x6 x7 x8 x9 (x10,x11,x12,x13)=true:=by
   have hr:∀{g'} (hP:Ply n own cuts lab nums said ss g' c) {a:Int},0<=a/\a<n->own.getD a.toNat 0≠0:=by
    intro g' hP a ha;have:=hP.owr.2 a ha;omega
   cases h with
   | idle h=>rfl
   | chg h hi hs ho ha hb eY hw=>exact absurd h9 (hr h ha)
   | rel h hi hs ha hb hw=>exact absurd h9 (hr h ha)
   | acc h hi hs ha hb sO bF gY hg=>omega
  rw [this];rfl
 ·obtain ⟨h1,L,y,h2,h3,h4,h5⟩:=h.ord h9 hc;obtain ⟨g',hP⟩:=h.ply;have hk:=hP.k;have hy:=(hP.sh _ _ _ h2).1.len;have agP:(aS x5 1 100000&&(!decide (x6=3)&&CJ n lab.length x6 x7 x8))=true/\sA said x5<0:=by
   cases h with
   | idle h=>exact absurd rfl h9
   | chg h hi hs ho ha hb eY hw=>
    rw [hi,aD (by omega),aru (.inl ⟨ho,ha,hb,eY⟩)];exact ⟨rfl,hs⟩
   | rel h hi hs ha hb hw=>
    rw [hi,aru (.inr ⟨rfl,ha,by omega⟩)];exact ⟨rfl,hs⟩
   | acc h hi hs ha hb sO bF gY hg=>
    rw [hi,aru (.inr ⟨rfl,ha,by omega⟩)];exact ⟨rfl,hs⟩
  rw [agP.1,aH.2 (show 1<=x9/\x9<=(lab.length:Int) from by omega),h3,wr (n:=nums.getD (x9-1).toNat 0+1) (by omega) (by omega),ak (show (x10,x11,x12,x13).1=nums.getD (x9-1).toNat 0+1 from h5),ak agP.2];simp
theorem Pnd.hd (h:Pnd n own cuts lab nums said ss g c x5 x6 x7 x8 x9 x10 x11 x12 x13) (hc:c<=80):CK n own cuts lab nums said (Fv n lab.length nums said x5 x6 x7 x8 x9 (x10,x11,x12,x13))=true:=by
 obtain ⟨g',hP⟩:=h.ply;exact hP.hd hc (h.tk hc)
end
section
variable {n:Nat} {g:aa Ed} (hg:GrOk n g)
include hg
theorem MF {op a b:Int} (h:op=1\/op=2) (ha:0<=a/\a<n) (hb:0<=b/\b<n) (eY:a≠b) :
  y_ n g op a b=(let r:=if op=2 then aq4 n g (iq a b) else WB n g (iq a b);if r.2.2 then (r.1,r.2.1,1) else ((n:Int),g,2)):=by
 unfold y_;rw [aH.2 (by omega),ak ha.1,ak ha.2,ak hb.1,ak hb.2,aD eY];simp only [p_,if_true,Bool.false_and,mF];rw [if_neg (by omega),if_neg (by omega)]
theorem acR {a b:Int} (ha:0<=a/\a<n) (hb:0<=b/\b<n) (eY:a≠b) (he:iq a b∉g):y_ n g 1 a b=((n:Int),ins g (iq a b),1)/\y_ n g 2 a b=((n:Int),g,2):=by
 have hn:2<=n/\n<=12:=by have:=hg.1;have:=hg.2.1;omega
 rw [MF hg (.inl rfl) ha hb eY,MF hg (.inr rfl) ha hb eY];unfold aq4 WB;rw [abq hg,Rs hn ha hb eY,aD he];exact ⟨rfl,rfl⟩
theorem acS {a b:Int} (ha:0<=a/\a<n) (hb:0<=b/\b<n) (eY:a≠b) (he:iq a b∈g):y_ n g 1 a b=((n:Int),g,2)/\y_ n g 2 a b=((n:Int),del g (iq a b),1):=by
 have hn:2<=n/\n<=12:=by have:=hg.1;have:=hg.2.1;omega
 rw [MF hg (.inl rfl) ha hb eY,MF hg (.inr rfl) ha hb eY];unfold aq4 WB;rw [abq hg,Rs hn ha hb eY,ak he];exact ⟨rfl,rfl⟩
omit hg in
theorem WM {a b:Int} (ha:0<=a/\a<n):y_ n g 4 a b=((n:Int),g,if aS b 1 3=true then 1 else 3):=by
 unfold y_;rw [aH.2 (by omega),ak ha.1,ak ha.2];rfl
theorem aAJ {a b:Int} (ha:0<=a/\a<n) (hb:0<=b/\b<n):y_ n g 3 a b=((n:Int),g,if (labs n g).getD a.toNat 0=(labs n g).getD b.toNat 0 then 1 else 2):=by
 unfold y_;rw [aH.2 (by omega),ak ha.1,ak ha.2,ak hb.1,ak hb.2];simp only [p_,if_true,decide_true,bK,IL,mF];rw [if_neg (by omega)];unfold tgB;rw [abq hg,aH.2 (by omega),aH.2 (by omega),eH];simp only [gz,decide_eq_true_eq]
omit hg in
theorem aAK {k:Nat} (hk:k<=3) {op a b:Int} (h:CJ n k op a b=false):(y_ n g op a b).2.1=g/\((y_ n g op a b).2.2=3\/op=4/\(y_ n g op a b).2.2=1):=by
 unfold CJ at h;unfold y_;by_cases h1:aS op 1 4=true
 ·rw [h1] at h ⊢;by_cases h2:0<=a/\a<n
  ·rw [aH.2 (show 0<=a/\a<=(n:Int)-1 from by omega)] at h;rw [ak h2.1,ak h2.2];simp only [p_,if_true,gz] at h ⊢;by_cases h4:op=4
   ·rw [if_pos h4];refine ⟨rfl,?_⟩;by_cases h5:aS b 1 3=true
    ·exact .inr ⟨h4,by rw [if_pos h5]⟩
    ·exact .inl (by rw [if_neg h5])
   ·rw [aD h4,az] at h;rw [if_neg h4,if_neg]
    ·exact ⟨rfl,.inl rfl⟩
    ·intro hc;simp only [aM,decide_eq_true_eq,pU,Bool.and_eq_false_iff,decide_eq_false_iff_not,Bool.not_eq_false'] at hc;rw [aH.2 (show 0<=b/\b<=(n:Int)-1 from by omega)] at h;simp only [gz,Bool.not_eq_false',aM,decide_eq_true_eq,iQ] at h;rcases hc.2 with h6|h6
     ·exact h6 h.1
     ·omega
  ·rw [if_neg]
   ·exact ⟨rfl,.inl rfl⟩
   ·simp only [aM,decide_eq_true_eq];exact fun hc=>h2 hc.2
 ·rw [if_neg]
  ·exact ⟨rfl,.inl rfl⟩
  ·simp only [aM];exact fun hc=>h1 hc.1
end
def Rpl (n:Nat) (g:aa Ed) (op a b v:Int) (g':aa Ed):Prop:=
 g'=(if v=3 then g else (y_ n g op a b).2.1)/\(1<=v/\v<=3)/\(v=(y_ n g op a b).2.2\/op=4/\(v=2\/((y_ n g op a b).2.2=1/\v=3)))
theorem aoa (a b:Int):(iq a b=(a,b))\/(iq a b=(b,a)):=by
 unfold iq;split
 ·exact .inl rfl
 ·exact .inr rfl
section
variable {n:Nat} {own:aa Int} {cuts:aa Ed} {lab:aa (aa Int)} {nums:aa Int} {said:aa Sd} {ss:aa zg} {g:aa Ed} {c:Nat}
theorem Ply.split (h:Ply n own cuts lab nums said ss g c) {j0:Nat} {L:aa aL} {y:An} (hs:ss[j0]?=some (L,y)) (x:Ed):x∈g↔x∈cuts\/x∈gE L\/∃(j:Nat) (M:aa aL) (w:An),j≠j0/\ss[j]?=some (M,w)/\x∈gE M:=by
 rw [h.gin];constructor
 ·rintro (h1|⟨j,M,w,hj,he⟩)
  ·exact .inl h1
  ·by_cases hjj:j=j0
   ·subst hjj;rw [hs] at hj;cases hj;exact .inr (.inl he)
   ·exact .inr (.inr ⟨j,M,w,hjj,hj,he⟩)
 ·rintro (h1|h1|⟨j,M,w,_,hj,he⟩)
  ·exact .inl h1
  ·exact .inr ⟨j0,L,y,hs,h1⟩
  ·exact .inr ⟨j,M,w,hj,he⟩
theorem Ply.whole (h:Ply n own cuts lab nums said ss g c):(NS n lab cuts).1=labs n g:=by
 obtain ⟨k1,k2,k3,k4⟩:=h.k;have hn:=h.n2;have akA:∀l,l∈lab->∃(j:Nat) (L:aa aL) (y:An),ss[j]?=some (L,y)/\l=labs n (gE L)/\ShR ((j:Int)+1) n L y:=by
  intro l hl;obtain ⟨j,hj,rfl⟩:=FW.1 hl;have ut:j<ss.length:=by omega
  obtain ⟨s1,_,_,s4,_⟩:=h.sh j _ _ (aZ ut);refine ⟨j,_,_,aZ ut,?_,s1⟩;rw [<-s4,dA,aZ hj];rfl
 have Ao:lab.all (pL n)=true:=by
  rw [bW];intro l hl;obtain ⟨j,L,y,h1,h2,h3⟩:=akA l hl;rw [h2];exact aAx (Td h3)
 have arO:cuts.all (fD n)=true:=by
  rw [bW];exact h.cgr.2.2.2
 unfold NS;rw [if_pos]
 ·show labs (n:Int).toNat _=_;rw [eH];have acY:pG n g:=fun e he=>by
   have:=il (h.gr.2.2.2 e he);exact ⟨this.1,this.2.1,this.2.2.1,this.2.2.2.1⟩
  have hEV:pG n (lab.flatMap G7++cuts):=fun e he=>by
   rcases bP.1 he with he|he
   ·obtain ⟨l,hl,he⟩:=CY.1 he;obtain ⟨j,L,y,h1,h2,h3⟩:=akA l hl;subst h2;obtain ⟨w,g1,g2⟩:=auI he;have t1:=(lw (Td h3)).lt g1;have t2:=(bn g1).1;rw [gp] at t2;omega
   ·exact acY e ((h.gin e).2 (.inl he))
  refine (lw hEV).uniq (lw acY) fun u v => ?_
  constructor
  ·refine fun hc=>hc.sub fun e he => ?_
   rcases bP.1 he with he|he
   ·obtain ⟨l,hl,he⟩:=CY.1 he;obtain ⟨j,L,y,h1,h2,h3⟩:=akA l hl;subst h2;obtain ⟨w,g1,g2⟩:=auI he;have:=((lw (Td h3)).2 w _ g1).1;rw [g2];exact (this.mono fun x hx=>(h.gin x).2 (.inr ⟨j,L,y,h1,hx⟩)).symm
   ·exact .of ((h.gin e).2 (.inl he))
  ·refine fun hc=>hc.sub fun e he => ?_
   rcases (h.gin e).1 he with he|⟨j,L,y,hj,he⟩
   ·exact .of (jN _ he)
   ·obtain ⟨s1,_,_,s4,_⟩:=h.sh j L y hj;have uX:j<lab.length:=by
     have:=(bn hj).1;omega
    have hl:labs n (gE L)∈lab:=by
     rw [<-s4,dA,aZ uX];exact u6 uX
    have bF:∀x,x∈G7 (labs n (gE L))->x∈lab.flatMap G7++cuts:=fun x hx=>jc _ (CY.2 ⟨_,hl,hx⟩)
    have hL:=lw (Td s1);obtain ⟨a1,a2,a3,a4⟩:=Td s1 e he;have i1:e.1.toNat<(labs n (gE L)).length:=by rw [gp];omega
    have i2:e.2.toNat<(labs n (gE L)).length:=by rw [gp];omega
    have g1:=getD_at i1;have g2:=getD_at i2;have hxy:=(hL.iff g1 g2).2 (by rw [gV a1,gV a3];exact Con.of he);have m1:=bF _ (auH g1);have m2:=bF _ (auH g2);rw [gV a1] at m1;rw [gV a3,<-hxy] at m2;exact (Con.of m1).symm.trans (Con.of m2)
 ·unfold wlB;rw [aH.2 (by omega),ak (by omega),Ao,arO];rfl
theorem au9 (h:Ply n own cuts lab nums said ss g c) {i op a b:Int} (hi:aS i 1 100000=true) (hs:sA said i<0) :
  ∃(cuts':aa Ed) (x5 x6 x7 x8 x9 x10 x11:Int) (x12:aa Ed) (x13:Int) (said':aa Sd) (told:Int) (g':aa Ed),tkM n own cuts lab nums said i op a b=((n:Int),own,cuts',lab,nums,x5,x6,x7,x8,x9,x10,x11,x12,x13,said',told)/\Pnd n own cuts' lab nums said' ss g' (c+1) x5 x6 x7 x8 x9 x10 x11 x12 x13 /\
   ((told=1/\x9=0/\∃v,said'=said++[(i,i,op,a,b,v)]/\Rpl n g op a b v g')\/(told=2/\x9≠0/\said'=said/\g'=g/\x5=i/\x6=op/\x7=a/\x8=b)):=by
 obtain ⟨k1,k2,k3,k4⟩:=h.k;have hn:=h.n2;have FP:∀v:Int,1<=v/\v<=3->NQ (said++[(i,i,op,a,b,v)])/\(said++[(i,i,op,a,b,v)]).length<=c+1:=fun v hv=>⟨an_ h.sdo.1 hs hv,by
  have:=h.sdo.2
  simp only [bq,bA,bB]
  omega⟩
 have azw:=h.onw (said':=said) ⟨h.sdo.1,by have:=h.sdo.2;omega⟩;unfold tkM;by_cases hr:CJ n lab.length op a b=false
 ·rw [if_pos hr];obtain ⟨m1,m2⟩:=aAK (g:=g) (show lab.length<=3 by omega) hr;refine ⟨_,_,_,_,_,_,_,_,_,_,_,_,g,rfl,.idle (h.onw (FP 3 (by omega))),.inl ⟨rfl,rfl,3,rfl,by rw [if_pos rfl],by omega,?_⟩⟩;rcases m2 with m2|m2
  ·exact .inl m2.symm
  ·exact .inr ⟨m2.1,.inr ⟨m2.2,rfl⟩⟩
 ·rw [if_neg hr];rw [Bool.not_eq_false] at hr;unfold CJ at hr;simp only [aM,aH] at hr;obtain ⟨r1,r2,r3⟩:=hr;have ha:0<=a/\a<n:=by omega
  by_cases h3:op=3
  ·rw [if_pos h3,h.whole];subst h3;rw [aD (by omega),az] at r3;simp only [aM,aH] at r3;have hb:0<=b/\b<n:=by omega
   have hm:=aAJ h.gr ha hb;by_cases hl:(labs n g).getD a.toNat 0=(labs n g).getD b.toNat 0
   ·rw [if_pos hl] at hm ⊢;exact ⟨_,_,_,_,_,_,_,_,_,_,_,_,g,rfl,.idle (h.onw (FP 1 (by omega))),.inl ⟨rfl,rfl,1,rfl,by rw [if_neg (by omega),hm],by omega,.inl (by rw [hm])⟩⟩
   ·rw [if_neg hl] at hm ⊢;exact ⟨_,_,_,_,_,_,_,_,_,_,_,_,g,rfl,.idle (h.onw (FP 2 (by omega))),.inl ⟨rfl,rfl,2,rfl,by rw [if_neg (by omega),hm],by omega,.inl (by rw [hm])⟩⟩
  ·rw [if_neg h3];by_cases h4:op=4
   ·rw [if_pos h4];subst h4;rw [ak rfl,au,aH] at r3;have hm:=WM (g:=g) (b:=b) ha;by_cases ho:own.getD a.toNat 0=b
    ·rw [if_pos ho];exact ⟨_,_,_,_,_,_,_,_,_,_,_,_,g,rfl,.idle (h.onw (FP 2 (by omega))),.inl ⟨rfl,rfl,2,rfl,by rw [if_neg (by omega),hm],by omega,.inr ⟨rfl,.inl rfl⟩⟩⟩
    ·rw [if_neg ho];have:=h.owr.2 a ha;exact ⟨_,_,_,_,_,_,_,_,_,_,_,_,g,rfl,.rel azw hi hs ha (by omega) ho,.inr ⟨rfl,by omega,rfl,rfl,rfl,rfl,rfl,rfl⟩⟩
   ·rw [if_neg h4];rw [aD h4,az] at r3;simp only [aM,aH,pU,Bool.and_eq_false_iff,decide_eq_false_iff_not,nA] at r3;have hb:0<=b/\b<n:=by omega
    have ng:op=1\/op=2:=by omega
    have eY:a≠b:=by
     rcases r3.2 with h|h
     ·exact h
     ·omega
    have hed:=Rs hn ha hb eY;unfold tkE;have Oe:(own.getD (iq a b).1.toNat 0=own.getD (iq a b).2.toNat 0↔own.getD a.toNat 0=own.getD b.toNat 0)/\(own.getD a.toNat 0=own.getD b.toNat 0->own.getD (iq a b).1.toNat 0=own.getD a.toNat 0):=by
     rcases aoa a b with h|h
     ·rw [h];exact ⟨Iff.rfl,fun _=>rfl⟩
     ·rw [h];exact ⟨⟨fun h=>h.symm,fun h=>h.symm⟩,fun h=>h.symm⟩
    by_cases hw:own.getD (iq a b).1.toNat 0=own.getD (iq a b).2.toNat 0
    ·rw [if_pos hw];have rC:=Oe.1.1 hw;rw [Oe.2 rC];have:=h.owr.2 a ha;have aG6:(if op=2 then (2:Int) else 1)=op:=by
      rcases ng with h|h<;>subst h<;>rfl
     rw [aG6];exact ⟨_,_,_,_,_,_,_,_,_,_,_,_,g,rfl,.chg azw hi hs ng ha hb eY rC,.inr ⟨rfl,by omega,rfl,rfl,rfl,rfl,rfl,rfl⟩⟩
    ·rw [if_neg hw];have hcg:=h.two hw;by_cases bF:iq a b∈cuts
     ·have qC:=hcg.2 bF;obtain ⟨m1,m2⟩:=acS h.gr ha hb eY qC;rcases ng with rfl|rfl
      ·rw [ak bF,if_pos (by decide)];exact ⟨_,_,_,_,_,_,_,_,_,_,_,_,g,rfl,.idle (h.onw (FP 2 (by omega))),.inl ⟨rfl,rfl,2,rfl,by rw [if_neg (by omega),m1],by omega,.inl (by rw [m1])⟩⟩
      ·rw [ak bF,if_neg (by decide),if_pos bF];refine ⟨_,_,_,_,_,_,_,_,_,_,_,_,del g (iq a b),rfl,.idle ⟨h.n2,h.k,h.owr,h.cgr.del,fun e he=>h.cut e (o8.1 he).1,fun j L y hj => ?_,h.gr.del,fun e => ?_,FP 1 (by omega)⟩,.inl ⟨rfl,rfl,1,rfl,by rw [if_neg (by omega),m2],by omega,.inl (by rw [m2])⟩⟩
       ·obtain ⟨s1,s2,s3,s4,s5⟩:=h.sh j L y hj;exact ⟨s1,s2,by omega,s4,s5⟩
       ·rw [o8,o8,h.gin];constructor
        ·rintro ⟨h1|h1,h2⟩
         ·exact .inl ⟨h1,h2⟩
         ·exact .inr h1
        ·rintro (h1|⟨j,L,y,hj,he⟩)
         ·exact ⟨.inl h1.1,h1.2⟩
         ·refine ⟨.inr ⟨j,L,y,hj,he⟩,?_⟩;rintro rfl;have:=(h.sh j L y hj).2.2.2.2 _ he;exact hw (this.1.trans this.2.symm)
     ·have qC:iq a b∉g:=fun h'=>bF (hcg.1 h')
      obtain ⟨m1,m2⟩:=acR h.gr ha hb eY qC;rcases ng with rfl|rfl
      ·rw [aD bF,if_neg (by decide),if_neg bF];refine ⟨_,_,_,_,_,_,_,_,_,_,_,_,ins g (iq a b),rfl,.idle ⟨h.n2,h.k,h.owr,h.cgr.ins hed,fun e he => ?_,fun j L y hj => ?_,h.gr.ins hed,fun e => ?_,FP 1 (by omega)⟩,.inl ⟨rfl,rfl,1,rfl,by rw [if_neg (by omega),m1],by omega,.inl (by rw [m1])⟩⟩
       ·rcases nk.1 he with rfl|he
        ·exact hw
        ·exact h.cut e he
       ·obtain ⟨s1,s2,s3,s4,s5⟩:=h.sh j L y hj;exact ⟨s1,s2,by omega,s4,s5⟩
       ·rw [nk,nk,h.gin];constructor
        ·rintro (h1|h1|h1)
         ·exact .inl (.inl h1)
         ·exact .inl (.inr h1)
         ·exact .inr h1
        ·rintro ((h1|h1)|h1)
         ·exact .inl h1
         ·exact .inr (.inl h1)
         ·exact .inr (.inr h1)
      ·rw [aD bF,if_pos (by decide)];exact ⟨_,_,_,_,_,_,_,_,_,_,_,_,g,rfl,.idle (h.onw (FP 2 (by omega))),.inl ⟨rfl,rfl,2,rfl,by rw [if_neg (by omega),m2],by omega,.inl (by rw [m2])⟩⟩
end
theorem arv (a:aa Int) (ha:a.length<=1048576):∃v,KJ a=some (v,())/\0<=v/\v<=60:=by
 show ∃v,KI BIG _=_/\_;rw [apw,aD (by omega),az];have h1:Int.tdiv (a.length:Int) 4=(a.length:Int) / 4:=aoC (by omega);rw [h1,wr (n:=(a.length:Int) / 4) (by omega) (by omega),wr (n:=12+(a.length:Int) / 4) (by omega) (by omega)];by_cases h:(60:Int)<12+(a.length:Int) / 4
 ·rw [ak h];exact ⟨60,rfl,by omega,by omega⟩
 ·rw [aD h];exact ⟨_,rfl,by omega,by omega⟩
theorem Vi {x:Ed}:∀(es c:aa Ed),x∈es.foldl ins c↔x∈c\/x∈es
 | [],c=>by simp
 | e::es,c=>by
  rw [iR,Vi es,nk,aY];constructor
  ·rintro ((h|h)|h)
   ·exact .inr (.inl h)
   ·exact .inl h
   ·exact .inr (.inr h)
  ·rintro (h|h|h)
   ·exact .inl (.inr h)
   ·exact .inl (.inl h)
   ·exact .inr h
theorem abr {n:Int}:∀(es c:aa Ed),GrOk n c->(∀e,e∈es->fD n e=true)->GrOk n (es.foldl ins c)
 | [],c,h,_=>h
 | e::es,c,h,he=>abr es (ins c e) (h.ins (he e (dX ..))) fun x hx=>he x (dU _ hx)
theorem qK {x:Ed}:∀(es c:aa Ed),x∈es.foldl del c↔x∈c/\x∉es
 | [],c=>by simp
 | e::es,c=>by
  rw [iR,qK es,o8,aY];constructor
  ·rintro ⟨⟨h1,h2⟩,h3⟩;exact ⟨h1,fun h=>h.elim h2 h3⟩
  ·rintro ⟨h1,h2⟩;exact ⟨⟨h1,fun h=>h2 (.inl h)⟩,fun h=>h2 (.inr h)⟩
theorem MG {n:Int}:∀(es c:aa Ed),GrOk n c->GrOk n (es.foldl del c)
 | [],c,h=>h
 | e::es,c,h=>MG es (del c e) h.del
theorem au_ {own:aa Int} {n:Nat} (hl:own.length=n) {b:Int} {x:Ed} (hx:fD n x=true):Wy own b x=true↔own.getD x.1.toNat 0=b/\own.getD x.2.toNat 0=b:=by
 have hr:=il hx;have g:∀v:Int,0<=v/\v<n->own[v.toNat]?=some (own.getD v.toNat 0):=fun v hv=>by
  have:v.toNat<own.length:=by omega
  rw [dA,aZ this];rfl
 unfold Wy;rw [g _ ⟨hr.1,hr.2.1⟩,g _ ⟨hr.2.2.1,hr.2.2.2.1⟩,ak hr.1,ak hr.2.2.1,ak (show x.1<own.length by omega),ak (show x.2<own.length by omega)];simp
theorem Dne.labs {n:Nat} {L L':aa aL} {o:qw} {z:An} (h:Dne n L L' o z) {x0:Int} (hR:ShR x0 n L' z):z.2.2.2=Go.Fw.labs n (gE L'):=h.lab.trans hR.web.labs
section
variable {n:Nat} {own:aa Int} {cuts:aa Ed} {lab:aa (aa Int)} {nums:aa Int} {said:aa Sd} {ss:aa zg} {g:aa Ed} {c:Nat} {x5 x6 x7 x8 x9 x10 x11:Int} {x12:aa Ed} {x13:Int}
theorem Ply.own_at (h:Ply n own cuts lab nums said ss g c) {a b:Int} (ha:0<=a/\a<n) (hb:1<=b/\b<=ss.length) :
  (∀v:Int,0<=v/\v<n->(own.set a.toNat b).getD v.toNat 0=if v=a then b else own.getD v.toNat 0)/\(own.set a.toNat b).length=n/\∀v:Int,0<=v/\v<n->1<=(own.set a.toNat b).getD v.toNat 0/\(own.set a.toNat b).getD v.toNat 0<=ss.length:=by
 have hl:=h.owr.1;have h0:∀v:Int,0<=v/\v<n->(own.set a.toNat b).getD v.toNat 0=if v=a then b else own.getD v.toNat 0:=by
  intro v hv;rw [Fz _ _ _ _ _ (by omega)];by_cases hva:v=a
  ·rw [if_pos (by rw [hva]),if_pos hva]
  ·rw [if_neg (by omega),if_neg hva]
 refine ⟨h0,by rw [rM];exact hl,fun v hv => ?_⟩;rw [h0 v hv];split
 ·exact hb
 ·exact h.owr.2 v hv
theorem ava (h:Pnd n own cuts lab nums said ss g c x5 x6 x7 x8 x9 x10 x11 x12 x13) (h9:x9≠0) (h1:1<=x9) {L L':aa aL} {y z:An} (hs:ss[(x9-1).toNat]?=some (L,y)) (aDC:x10=y.1+1) (hR:ShR x9 n L' z) (hD:Dne n L L' (x10,x11,x12,x13) z) :
  ∃(own':aa Int) (cuts':aa Ed) (t5 t6 t7 t8 t9 t10 t11:Int) (t12:aa Ed) (t13:Int) (said':aa Sd) (told:Int) (g':aa Ed),
   heM n own cuts (lab.set (x9-1).toNat z.2.2.2) (nums.set (x9-1).toNat z.1) said x5 x6 x7 x8 x11 z.2.1 z.2.2.1=((n:Int),own',cuts',lab.set (x9-1).toNat z.2.2.2,nums.set (x9-1).toNat z.1,t5,t6,t7,t8,t9,t10,t11,t12,t13,said',told) /\
   Pnd n own' cuts' (lab.set (x9-1).toNat z.2.2.2) (nums.set (x9-1).toNat z.1) said' (ss.set (x9-1).toNat (L',z)) g' (c+1) t5 t6 t7 t8 t9 t10 t11 t12 t13 /\
   ((told=1/\t9=0/\∃v,said'=said++[(x5,x5,x6,x7,x8,v)]/\Rpl n g x6 x7 x8 v g')\/(told=2/\t9≠0/\said'=said/\g'=g/\t5=x5/\t6=x6/\t7=x7/\t8=x8/\x11=3/\t11=4)):=by
 have hz:z.1=y.1+1:=hD.num.trans aDC;have hl:=hD.labs hR;have sd:∀{g'} (hP:Ply n own cuts lab nums said ss g' c) (J4:sA said x5<0) (v:Int),1<=v/\v<=3->NQ (said++[(x5,x5,x6,x7,x8,v)])/\(said++[(x5,x5,x6,x7,x8,v)]).length<=c+1:=fun hP J4 v hv=>⟨an_ hP.sdo.1 J4 hv,by
  have:=hP.sdo.2
  simp only [bq,bA,bB]
  omega⟩
 cases h with
 | idle h=>exact absurd rfl h9
 | chg h hi J4 ho ha hb eY hw=>
  have hn:=h.n2;obtain ⟨hL,hy⟩:=h.sh _ _ _ hs;have BP:(((own.getD x7.toNat 0-1).toNat:Nat):Int)+1=own.getD x7.toNat 0:=by omega
  have hed:=Rs hn ha hb eY;have Oe:own.getD (iq x7 x8).1.toNat 0=own.getD x7.toNat 0/\own.getD (iq x7 x8).2.toNat 0=own.getD x7.toNat 0:=by
   rcases aoa x7 x8 with h'|h'
   ·rw [h'];exact ⟨rfl,hw.symm⟩
   ·rw [h'];exact ⟨hw.symm,rfl⟩
  have arV:=h.one Oe.1 Oe.2 hs h1;have FQ:∀e,e∈gE L->own.getD e.1.toNat 0=own.getD x7.toNat 0/\own.getD e.2.toNat 0=own.getD x7.toNat 0:=fun e he=>by
   have:=hy.2.2.2 e he;rw [BP] at this;exact this
  have W_:∀(j:Nat) (M:aa aL) (w:An),j≠(own.getD x7.toNat 0-1).toNat->ss[j]?=some (M,w)->∀e,e∈gE M->own.getD e.1.toNat 0=(j:Int)+1/\own.getD e.2.toNat 0=(j:Int)+1:=fun j M w _ hj e he=>(h.sh j M w hj).2.2.2.2 e he
  have bv:∀(j:Nat) (M:aa aL) (w:An),j≠(own.getD x7.toNat 0-1).toNat->ss[j]?=some (M,w)->iq x7 x8∉gE M:=fun j M w hj hm bF=>by
   have:=W_ j M w hj hm _ bF;omega
  have hnc:iq x7 x8∉cuts:=fun bF=>h.cut _ bF (Oe.1.trans Oe.2.symm)
  unfold heM;rw [if_neg (by omega)];rcases ho with rfl|rfl
  ·obtain ⟨d1,_,_,d4⟩:=hD.add (.inl rfl);have d4:=d4 _ rfl;have Ho:∀e,e∈gE L'->own.getD e.1.toNat 0=own.getD x7.toNat 0/\own.getD e.2.toNat 0=own.getD x7.toNat 0:=fun e he=>by
    rcases (d1 e).1 he with he|he
    ·exact FQ e he
    ·rw [bY.1 he];exact Oe
   by_cases bF:iq x7 x8∈gE L
   ·obtain ⟨m1,_⟩:=acS h.gr ha hb eY (arV.2 bF);rw [ak bF] at d4;rw [d4];refine ⟨_,_,_,_,_,_,_,_,_,_,_,_,_,g,rfl,.idle (h.upd h1 hs hR hz hl h.owr h.cgr h.cut Ho W_ h.gr (fun e => ?_) (sd h J4 2 (by omega))),.inl ⟨rfl,rfl,2,rfl,by rw [if_neg (by omega),m1],by omega,.inl (by rw [m1])⟩⟩;rw [h.split hs,d1];constructor
    ·rintro (h|h|h)
     ·exact .inl h
     ·exact .inr (.inl (.inl h))
     ·exact .inr (.inr h)
    ·rintro (h | (h|h)|h)
     ·exact .inl h
     ·exact .inr (.inl h)
     ·rw [bY.1 h];exact .inr (.inl bF)
     ·exact .inr (.inr h)
   ·have qC:iq x7 x8∉g:=fun h'=>bF (arV.1 h')
    obtain ⟨m1,_⟩:=acR h.gr ha hb eY qC;rw [aD bF] at d4;rw [d4];refine ⟨_,_,_,_,_,_,_,_,_,_,_,_,_,ins g (iq x7 x8),rfl,.idle (h.upd h1 hs hR hz hl h.owr h.cgr h.cut Ho W_ (h.gr.ins hed) (fun e => ?_) (sd h J4 1 (by omega))),.inl ⟨rfl,rfl,1,rfl,by rw [if_neg (by omega),m1],by omega,.inl (by rw [m1])⟩⟩;rw [nk,h.split hs,d1];constructor
    ·rintro (h|h|h|h)
     ·exact .inr (.inl (.inr (bY.2 h)))
     ·exact .inl h
     ·exact .inr (.inl (.inl h))
     ·exact .inr (.inr h)
    ·rintro (h | (h|h)|h)
     ·exact .inr (.inl h)
     ·exact .inr (.inr (.inl h))
     ·exact .inl (bY.1 h)
     ·exact .inr (.inr (.inr h))
  ·obtain ⟨e',q1,q2,q3,_⟩:=hD.take rfl;have q0:e'=iq x7 x8:=by
    have:[iq x7 x8]=[e']:=q1;simp only [J_,and_true] at this;exact this.symm
   subst q0;have Ho:∀e,e∈gE L'->own.getD e.1.toNat 0=own.getD x7.toNat 0/\own.getD e.2.toNat 0=own.getD x7.toNat 0:=fun e he=>by
    rw [q2,o8] at he;exact FQ e he.1
   by_cases bF:iq x7 x8∈gE L
   ·obtain ⟨_,m1⟩:=acS h.gr ha hb eY (arV.2 bF);rw [ak bF] at q3;rw [q3];refine ⟨_,_,_,_,_,_,_,_,_,_,_,_,_,del g (iq x7 x8),rfl,.idle (h.upd h1 hs hR hz hl h.owr h.cgr h.cut Ho W_ h.gr.del (fun e => ?_) (sd h J4 1 (by omega))),.inl ⟨rfl,rfl,1,rfl,by rw [if_neg (by omega),m1],by omega,.inl (by rw [m1])⟩⟩;rw [o8,h.split hs,q2,o8];constructor
    ·rintro ⟨h|h|h,h'⟩
     ·exact .inl h
     ·exact .inr (.inl ⟨h,h'⟩)
     ·exact .inr (.inr h)
    ·rintro (h|h|h)
     ·exact ⟨.inl h,by rintro rfl;exact hnc h⟩
     ·exact ⟨.inr (.inl h.1),h.2⟩
     ·refine ⟨.inr (.inr h),?_⟩;obtain ⟨j,M,w,hj,hm,he⟩:=h;rintro rfl;exact bv j M w hj hm he
   ·have qC:iq x7 x8∉g:=fun h'=>bF (arV.1 h')
    obtain ⟨_,m1⟩:=acR h.gr ha hb eY qC;rw [aD bF] at q3;rw [q3];refine ⟨_,_,_,_,_,_,_,_,_,_,_,_,_,g,rfl,.idle (h.upd h1 hs hR hz hl h.owr h.cgr h.cut Ho W_ h.gr (fun e => ?_) (sd h J4 2 (by omega))),.inl ⟨rfl,rfl,2,rfl,by rw [if_neg (by omega),m1],by omega,.inl (by rw [m1])⟩⟩;rw [h.split hs,q2,o8];constructor
    ·rintro (h|h|h)
     ·exact .inl h
     ·exact .inr (.inl ⟨h,by rintro rfl;exact bF h⟩)
     ·exact .inr (.inr h)
    ·rintro (h|h|h)
     ·exact .inl h
     ·exact .inr (.inl h.1)
     ·exact .inr (.inr h)
 | rel h hi J4 ha hb hw=>
  have hn:=h.n2;obtain ⟨hL,hy⟩:=h.sh _ _ _ hs;have BP:(((own.getD x7.toNat 0-1).toNat:Nat):Int)+1=own.getD x7.toNat 0:=by omega
  obtain ⟨d1,_,d3,_⟩:=hD.rel rfl;have FQ:∀e,e∈gE L->own.getD e.1.toNat 0=own.getD x7.toNat 0/\own.getD e.2.toNat 0=own.getD x7.toNat 0:=fun e he=>by
   have:=hy.2.2.2 e he;rw [BP] at this;exact this
  have FM:∀e,e∈gE L->fD n e=true:=(l9 hL.web.gr).1;have Xa:∀x,x∈z.2.2.1↔x∈gE L/\(x.1=x7\/x.2=x7):=fun x=>by
   rw [d3,jT];unfold BL;rw [decide_eq_true_eq]
  have axE:∀x,x∈gE L'↔x∈gE L/\¬(x.1=x7\/x.2=x7):=fun x=>by
   rw [d1];unfold BL;rw [decide_eq_false_iff_not]
  have acY:∀x,x∈g->fD n x=true:=h.gr.2.2.2;have hCm:∀x,x∈vY cuts z.2.2.1↔x∈cuts\/x∈z.2.2.1:=fun x=>Vi _ _
  have hCg:∀x,x∈vY cuts z.2.2.1->x∈g:=fun x hx=>by
   rw [h.split hs];rcases (hCm x).1 hx with hx|hx
   ·exact .inl hx
   ·exact .inr (.inl ((Xa x).1 hx).1)
  have akE:GrOk n (vY cuts z.2.2.1):=abr _ _ h.cgr fun e he=>FM e ((Xa e).1 he).1
  obtain ⟨o1,o2,o3⟩:=h.own_at ha hb;have hIm:∀x,x∈qP own cuts z.2.2.1 x7 x8↔x∈vY cuts z.2.2.1/\(own.set x7.toNat x8).getD x.1.toNat 0=x8/\(own.set x7.toNat x8).getD x.2.toNat 0=x8:=fun x=>by
   unfold qP;rw [jT];constructor
   ·rintro ⟨p1,p2⟩;exact ⟨p1,(au_ o2 (acY x (hCg x p1))).1 p2⟩
   ·rintro ⟨p1,p2⟩;exact ⟨p1,(au_ o2 (acY x (hCg x p1))).2 p2⟩
  have hIg:∀x,x∈qP own cuts z.2.2.1 x7 x8->x∈g:=fun x hx=>hCg x ((hIm x).1 hx).1
  have aG7:GrOk n (qP own cuts z.2.2.1 x7 x8):=⟨akE.1,akE.2.1,akE.2.2.1.filter _,fun e he=>akE.2.2.2 e ((hIm e).1 he).1⟩
  have RG:∀e,e∈z.2.2.1->e∉cuts:=fun e he hc=>by
   have:=FQ e ((Xa e).1 he).1;exact h.cut e hc (this.1.trans this.2.symm)
  have IK:∀x:Ed,fD n x=true->x.1≠x7/\x.2≠x7->(own.set x7.toNat x8).getD x.1.toNat 0=own.getD x.1.toNat 0/\(own.set x7.toNat x8).getD x.2.toNat 0=own.getD x.2.toNat 0:=fun x hx bv=>by
   have hr:=il hx;rw [o1 _ ⟨hr.1,hr.2.1⟩,o1 _ ⟨hr.2.2.1,hr.2.2.2.1⟩,if_neg bv.1,if_neg bv.2];exact ⟨rfl,rfl⟩
  have hP:∀{said':aa Sd},NQ said'/\said'.length<=c+1->Ply n (own.set x7.toNat x8) ((qP own cuts z.2.2.1 x7 x8).foldl del (vY cuts z.2.2.1)) (lab.set (own.getD x7.toNat 0-1).toNat z.2.2.2) (nums.set (own.getD x7.toNat 0-1).toNat z.1) said' (ss.set (own.getD x7.toNat 0-1).toNat (L',z)) ((qP own cuts z.2.2.1 x7 x8).foldl del g) (c+1):=by
   intro said' FP;have azz:∀(j:Nat) (M:aa aL) (w:An),j≠(own.getD x7.toNat 0-1).toNat->ss[j]?=some (M,w)->∀e,e∈gE M->fD n e=true/\(own.getD e.1.toNat 0=(j:Int)+1/\own.getD e.2.toNat 0=(j:Int)+1)/\e.1≠x7/\e.2≠x7:=fun j M w hj hm e he=>by
    obtain ⟨s1,_,_,_,s5⟩:=h.sh j M w hm;have:=s5 e he;refine ⟨(l9 s1.web.gr).1 e he,this,fun hc => ?_,fun hc => ?_⟩
    ·rw [hc] at this;omega
    ·rw [hc] at this;omega
   refine h.upd h1 hs hR hz hl ⟨o2,o3⟩ (MG _ _ akE) (fun e he => ?_) (fun e he => ?_) (fun j M w hj hm e he => ?_) (MG _ _ h.gr) (fun e => ?_) FP
   ·obtain ⟨p1,p2⟩:=(qK _ _).1 he;intro rE;have di:=acY e (hCg e p1);have hr:=il di;have hI:(own.set x7.toNat x8).getD e.1.toNat 0≠x8:=fun h'=>p2 ((hIm e).2 ⟨p1,h',rE▸h'⟩)
    have e1:=o1 _ (show 0<=e.1/\e.1<(n:Int) from ⟨hr.1,hr.2.1⟩);have e2:=o1 _ (show 0<=e.2/\e.2<(n:Int) from ⟨hr.2.2.1,hr.2.2.2.1⟩);by_cases h1':e.1=x7
    ·rw [if_pos h1'] at e1;exact hI e1
    ·by_cases BQ:e.2=x7
     ·rw [if_pos BQ] at e2;exact hI (rE.trans e2)
     ·rw [if_neg h1'] at e1;rw [if_neg BQ] at e2;rw [e1,e2] at rE;rcases (hCm e).1 p1 with p1|p1
      ·exact h.cut e p1 rE
      ·rcases ((Xa e).1 p1).2 with h'|h'
       ·exact h1' h'
       ·exact BQ h'
   ·obtain ⟨p1,p2⟩:=(axE e).1 he;have:=IK e (FM e p1) ⟨fun h'=>p2 (.inl h'),fun h'=>p2 (.inr h')⟩;rw [this.1,this.2];exact FQ e p1
   ·obtain ⟨p0,p1,p2⟩:=azz j M w hj hm e he;have:=IK e p0 p2;rw [this.1,this.2];exact p1
   ·rw [qK,qK,hCm,h.split hs];constructor
    ·rintro ⟨p|p|p,p'⟩
     ·exact .inl ⟨.inl p,p'⟩
     ·by_cases hv:e.1=x7\/e.2=x7
      ·exact .inl ⟨.inr ((Xa e).2 ⟨p,hv⟩),p'⟩
      ·exact .inr (.inl ((axE e).2 ⟨p,hv⟩))
     ·exact .inr (.inr p)
    ·rintro (⟨p|p,p'⟩|p|p)
     ·exact ⟨.inl p,p'⟩
     ·exact ⟨.inr (.inl ((Xa e).1 p).1),p'⟩
     ·obtain ⟨p1,p2⟩:=(axE e).1 p;refine ⟨.inr (.inl p1),fun hI => ?_⟩;have:=IK e (FM e p1) ⟨fun h'=>p2 (.inl h'),fun h'=>p2 (.inr h')⟩;have h3:=((hIm e).1 hI).2.1;rw [this.1,(FQ e p1).1] at h3;exact hw h3
     ·refine ⟨.inr (.inr p),fun hI => ?_⟩;obtain ⟨j,M,w,hj,hm,he⟩:=p;obtain ⟨p0,p1,p2⟩:=azz j M w hj hm e he;rcases (hCm e).1 ((hIm e).1 hI).1 with p|p
      ·exact h.cut e p (p1.1.trans p1.2.symm)
      ·rcases ((Xa e).1 p).2 with h'|h'
       ·exact p2.1 h'
       ·exact p2.2 h'
  unfold heM;rw [if_pos rfl,if_pos rfl];unfold acO;rw [if_pos RG];by_cases h0:(qP own cuts z.2.2.1 x7 x8).length=0
  ·rw [if_pos h0];have h0':=nz.1 h0;have hm:=WM (g:=g) (b:=x8) ha;rw [if_pos (aH.2 (by have:=h.k;omega))] at hm;have:=hP (sd h J4 1 (by omega));rw [h0'] at this;exact ⟨_,_,_,_,_,_,_,_,_,_,_,_,_,g,rfl,.idle this,.inl ⟨rfl,rfl,1,rfl,by rw [if_neg (by omega),hm],by omega,.inl (by rw [hm])⟩⟩
  ·rw [if_neg h0];refine ⟨_,_,_,_,_,_,_,_,_,_,_,_,_,g,rfl,.acc (hP (said':=said) ⟨h.sdo.1,by have:=h.sdo.2;omega⟩) hi J4 ha (by rw [rM];exact hb) ⟨aG7,fun h'=>h0 (by rw [h'];rfl)⟩ (fun e he => ?_) h.gr (fun e => ?_),.inr ⟨rfl,by omega,rfl,rfl,rfl,rfl,rfl,rfl,rfl,rfl⟩⟩
   ·have:=(hIm e).1 he;exact ⟨this.2.1,this.2.2,fun h'=>((qK _ _).1 h').2 he⟩
   ·rw [qK];constructor
    ·intro he;by_cases hI:e∈qP own cuts z.2.2.1 x7 x8
     ·exact .inr hI
     ·exact .inl ⟨he,hI⟩
    ·rintro (he|he)
     ·exact he.1
     ·exact hIg e he
 | acc h hi J4 ha hb sO bF gY hg=>
  obtain ⟨hL,hy⟩:=h.sh _ _ _ hs;have BP:(((x8-1).toNat:Nat):Int)+1=x8:=by omega
  obtain ⟨d1,_,_,_⟩:=hD.add (.inr rfl);have hm:=WM (g:=g) (b:=x8) ha;rw [if_pos (aH.2 (by have:=h.k;omega))] at hm;unfold heM;rw [if_pos rfl,if_neg (by omega)];refine ⟨_,_,_,_,_,_,_,_,_,_,_,_,_,g,rfl,.idle (h.upd h1 hs hR hz hl h.owr h.cgr h.cut (fun e he => ?_) (fun j M w _ hj e he=>(h.sh j M w hj).2.2.2.2 e he) gY (fun e => ?_) (sd h J4 1 (by omega))),.inl ⟨rfl,rfl,1,rfl,by rw [if_neg (by omega),hm],by omega,.inl (by rw [hm])⟩⟩
  ·rcases (d1 e).1 he with he|he
   ·have:=hy.2.2.2 e he;rw [BP] at this;exact this
   ·exact ⟨(bF e he).1,(bF e he).2.1⟩
  ·rw [hg,h.split hs,d1];constructor
   ·rintro ((h|h|h)|h)
    ·exact .inl h
    ·exact .inr (.inl (.inl h))
    ·exact .inr (.inr h)
    ·exact .inr (.inl (.inr h))
   ·rintro (h | (h|h)|h)
    ·exact .inl (.inl h)
    ·exact .inl (.inr (.inl h))
    ·exact .inr h
    ·exact .inl (.inr (.inr h))
end
def mst (n:Int) (g:aa Ed) (s:Sd):aa Ed:=if s.2.2.2.2.2=3 then g else (y_ n g s.2.2.1 s.2.2.2.1 s.2.2.2.2.1).2.1
def om (h:Hd):Int:=h.2.2.2.2.2.2.2.2.2.1
def Rt (h:Hd):aa Sd:=h.2.2.2.2.2.2.2.2.2.2.2.2.2.2
def orO (h:Hd):qw:=(h.2.2.2.2.2.2.2.2.2.2.1,h.2.2.2.2.2.2.2.2.2.2.2.1,h.2.2.2.2.2.2.2.2.2.2.2.2.1,h.2.2.2.2.2.2.2.2.2.2.2.2.2.1)
def qO (h:Hd):Int × Int × Int × Int:=(h.2.2.2.2.2.1,h.2.2.2.2.2.2.1,h.2.2.2.2.2.2.2.1,h.2.2.2.2.2.2.2.2.1)
abbrev flI (h:Hd) (t:Int):NT:=(h.1,h.2.1,h.2.2.1,h.2.2.2.1,h.2.2.2.2.1,h.2.2.2.2.2.1,h.2.2.2.2.2.2.1,h.2.2.2.2.2.2.2.1,h.2.2.2.2.2.2.2.2.1,h.2.2.2.2.2.2.2.2.2.1,h.2.2.2.2.2.2.2.2.2.2.1,h.2.2.2.2.2.2.2.2.2.2.2.1,h.2.2.2.2.2.2.2.2.2.2.2.2.1,h.2.2.2.2.2.2.2.2.2.2.2.2.2.1,h.2.2.2.2.2.2.2.2.2.2.2.2.2.2,t)
inductive HP (n:Nat):Hd->List zg->List Ed->Nat->Prop
 | mk {own:List Int} {cuts:List Ed} {lab:List (List Int)} {nums:List Int} {said:List Sd} {ss:List zg} {g:List Ed} {c:Nat} {x5 x6 x7 x8 x9 x10 x11:Int} {x12:List Ed} {x13:Int}
   (hp:Pnd n own cuts lab nums said ss g c x5 x6 x7 x8 x9 x10 x11 x12 x13) (hf:said.foldl (mst n) []=g) (hc:c<=80):HP n ((n:Int),own,cuts,lab,nums,x5,x6,x7,x8,x9,x10,x11,x12,x13,said) ss g c
section
variable {n:Nat} {own:aa Int} {cuts:aa Ed} {lab:aa (aa Int)} {nums:aa Int} {said:aa Sd} {ss:aa zg} {g:aa Ed} {c:Nat} {x5 x6 x7 x8 x9 x10 x11:Int} {x12:aa Ed} {x13:Int}
theorem Ply.up (h:Ply n own cuts lab nums said ss g c):Ply n own cuts lab nums said ss g (c+1):=h.onw ⟨h.sdo.1,by have:=h.sdo.2;omega⟩
theorem Pnd.up (h:Pnd n own cuts lab nums said ss g c x5 x6 x7 x8 x9 x10 x11 x12 x13):Pnd n own cuts lab nums said ss g (c+1) x5 x6 x7 x8 x9 x10 x11 x12 x13:=by
 cases h with
 | idle h=>exact .idle h.up
 | chg h hi hs ho ha hb eY hw=>exact .chg h.up hi hs ho ha hb eY hw
 | rel h hi hs ha hb hw=>exact .rel h.up hi hs ha hb hw
 | acc h hi hs ha hb sO bF gY hg=>exact .acc h.up hi hs ha hb sO bF gY hg
theorem Pnd.x12l (h:Pnd n own cuts lab nums said ss g c x5 x6 x7 x8 x9 x10 x11 x12 x13):x12.length<=66:=by
 cases h with
 | idle h=>simp
 | chg h hi hs ho ha hb eY hw=>simp
 | rel h hi hs ha hb hw=>simp
 | acc h hi hs ha hb sO bF gY hg=>exact Rq sO.1
theorem Ply.sz (h:Ply n own cuts lab nums said ss g c) (hc:c<=80) (hx:x12.length<=66):HdS ((n:Int),own,cuts,lab,nums,x5,x6,x7,x8,x9,x10,x11,x12,x13,said):=by
 obtain ⟨k1,k2,k3,k4⟩:=h.k;have hn:=h.n2;have mQ:=Rq h.cgr;have hol:=h.owr.1;have hsl:=h.sdo.2;refine ⟨by show own.length<=12;omega,by show cuts.length<=132;omega,⟨by show lab.length<=3;omega,fun y hy => ?_⟩,by show nums.length<=3;omega,by show x12.length<=132;omega,by show said.length<=81;omega⟩;obtain ⟨j,hj,rfl⟩:=FW.1 (show y∈lab from hy);have ut:j<ss.length:=by omega
 obtain ⟨_,_,_,s4,_⟩:=h.sh j _ _ (aZ ut);rw [dA,aZ hj] at s4;have s4:lab[j]=_:=s4;rw [s4,gp];omega
theorem HP.sz {h:Hd} (hp:HP n h ss g c):HdS h:=by
 cases hp with
 | mk hp hf hc=>
  obtain ⟨g',hP⟩:=hp.ply;exact hP.sz hc hp.x12l
theorem HP.up {h:Hd} (hp:HP n h ss g c) (hc:c<80):HP n h ss g (c+1):=by
 cases hp with
 | mk hp hf _=>exact .mk hp.up hf (by omega)
theorem HP.len {h:Hd} (hp:HP n h ss g c):h.1=n/\(2<=n/\n<=12)/\(1<=ss.length/\ss.length<=3)/\h.2.2.2.1.length=ss.length/\GrOk n g/\(Rt h).foldl (mst n) []=g/\(Rt h).length<=c/\c<=80:=by
 cases hp with
 | mk hp hf hc=>
  obtain ⟨g',hP⟩:=hp.ply;have hk:=hP.k;refine ⟨rfl,hP.n2,⟨hk.1,hk.2.1⟩,hk.2.2.1,?_,hf,hP.sdo.2,hc⟩;cases hp with
  | idle h=>exact h.gr
  | chg h=>exact h.gr
  | rel h=>exact h.gr
  | acc h hi hs ha hb sO bF gY hg=>exact gY
theorem ajZ {op a b v i:Int} {g':aa Ed} (hf:said.foldl (mst n) []=g) (h:Rpl n g op a b v g'):(said++[(i,i,op,a,b,v)]).foldl (mst n) []=g':=by
 rw [CX,hf];exact h.1.symm
theorem HP.take {h:Hd} (hp:HP n h ss g c) (hc:c<80) (i op a b:Int):∃(h':Hd) (told:Int) (g':aa Ed),tkU h i op a b=flI h' told/\HP n h' ss g' (c+1) /\
  ((told=0/\h'=h/\g'=g)\/sA (Rt h) i<0/\om h=0/\((told=1/\om h'=0/\∃v,Rt h'=Rt h++[(i,i,op,a,b,v)]/\Rpl n g op a b v g')\/(told=2/\om h'≠0/\Rt h'=Rt h/\g'=g/\qO h'=(i,op,a,b)))):=by
 have nW:=hp.up hc;cases hp with
 | @mk own cuts lab nums said _ _ _ x5 x6 x7 x8 x9 x10 x11 x12 x13 hp hf iZ=>
  show ∃(h':Hd) (told:Int) (g':aa Ed),tkR (n:Int) own cuts lab nums x5 x6 x7 x8 x9 x10 x11 x12 x13 said i op a b=_/\_;unfold tkR;by_cases a_:Rj (n:Int) own cuts lab nums x5 x6 x7 x8 x9 x10 x11 x12 x13 said i=true
  ·rw [if_pos a_];obtain ⟨_,z5,_,_,_,z9,_⟩:=anT a_;unfold Rj at a_;simp only [aM,decide_eq_true_eq,pU,decide_eq_false_iff_not] at a_;obtain ⟨_,hi,J4,_,_⟩:=a_;have hP:Ply n own cuts lab nums said ss g c:=by
    cases hp with
    | idle h=>exact h
    | chg h jw=>rw [z5] at jw;exact absurd jw (by decide)
    | rel h jw=>rw [z5] at jw;exact absurd jw (by decide)
    | acc h jw=>rw [z5] at jw;exact absurd jw (by decide)
   obtain ⟨cuts',t5,t6,t7,t8,t9,t10,t11,t12,t13,said',told,g',e1,e2,e3⟩:=au9 (op:=op) (a:=a) (b:=b) hP hi (by omega);rw [e1];refine ⟨((n:Int),own,cuts',lab,nums,t5,t6,t7,t8,t9,t10,t11,t12,t13,said'),told,g',rfl,.mk e2 ?_ (by omega),.inr ⟨by show sA said i<0;omega,z9,?_⟩⟩
   ·rcases e3 with ⟨_,_,v,rfl,hr⟩|⟨_,_,rfl,rfl,_⟩
    ·exact ajZ hf hr
    ·exact hf
   ·rcases e3 with ⟨r1,r2,v,r3,hr⟩|⟨r1,r2,r3,r4,r5,r6,r7,r8⟩
    ·exact .inl ⟨r1,r2,v,r3,hr⟩
    ·exact .inr ⟨r1,r2,r3,r4,by show (t5,t6,t7,t8)=_;rw [r5,r6,r7,r8]⟩
  ·rw [if_neg a_];exact ⟨_,0,g,rfl,nW,.inl ⟨rfl,rfl,rfl⟩⟩
end
theorem avc {n k:Nat} (hk:1<=k) (v:Int) (hv:0<=v/\v<n):1<=(Q5 n k).getD v.toNat 0/\(Q5 n k).getD v.toNat 0<=k:=by
 rw [gD (aAw (k:=k) (show v.toNat<n by omega))];have:=Nat.mod_lt v.toNat (show k > 0 from by omega);omega
theorem HP.new {n k:Nat} (h2:2<=n) (gT:n<=12) (h1:1<=k) (h3:k<=3):HP n (hdN n k) (List.replicate k ([],(0,false,[],[]))) [] 0:=by
 refine .mk (.idle ⟨⟨h2,gT⟩,by simp only [FV];exact ⟨h1,h3,trivial,trivial⟩,⟨aw4 n k,fun v hv=>by rw [FV];exact avc h1 v hv⟩,ajX ⟨h2,gT⟩,fun e he=>(by cases he),fun j L y hj => ?_,ajX ⟨h2,gT⟩,fun e => ?_,⟨fun j hj=>absurd hj (by simp),by simp⟩⟩) rfl (by omega)
 ·have uX:=(bn hj).1;rw [FV] at uX;have:=iA hj;rw [List.mem_replicate] at this;cases this.2;refine ⟨aCt (by omega) (by omega) gT,?_,by simp,?_,fun e he=>by cases he⟩
  ·rw [dA,ags,if_pos uX];rfl
  ·rw [dA,ags,if_pos uX];rfl
 ·constructor
  ·intro h;cases h
  ·rintro (h|⟨j,L,y,hj,he⟩)
   ·cases h
   ·have:=iA hj;rw [List.mem_replicate] at this;cases this.2;cases he
abbrev Shr:=Int × Int × List aL × An
def SLR (n:Nat) (S:aa Shr) (ss:aa zg):Prop:=S.length=ss.length/\∀(j:Nat) (L:aa aL) (y:An),ss[j]?=some (L,y)->S[j]?=some ((j:Int)+1,(n:Int),L,y)
theorem SLR.at {n:Nat} {S:aa Shr} {ss:aa zg} (h:SLR n S ss) {s:Int} (h1:1<=s) {L:aa aL} {y:An} (hs:ss[(s-1).toNat]?=some (L,y)):(s-1).toNat<S.length/\S[(s-1).toNat]?=some (s,(n:Int),L,y):=by
 have:=(bn hs).1;have h2:=h.2 _ _ _ hs;rw [show (((s-1).toNat:Nat):Int)+1=s from by omega] at h2;exact ⟨by have:=h.1;omega,h2⟩
theorem SLR.set {n:Nat} {S:aa Shr} {ss:aa zg} (h:SLR n S ss) {s:Int} (h1:1<=s) (L:aa aL) (y:An):SLR n (S.set (s-1).toNat (s,(n:Int),L,y)) (ss.set (s-1).toNat (L,y)):=by
 refine ⟨by rw [rM,rM];exact h.1,fun j M w hj => ?_⟩;rw [CW] at hj ⊢;by_cases ut:(s-1).toNat=j
 ·rw [if_pos ut] at hj ⊢;by_cases hl:(s-1).toNat<ss.length
  ·rw [if_pos hl] at hj;cases hj;rw [if_pos (by have:=h.1;omega),show (j:Int)+1=s from by omega]
  ·rw [if_neg hl] at hj;cases hj
 ·rw [if_neg ut] at hj ⊢;exact h.2 j M w hj
theorem aAL (h:Hd):DT h=some (!decide (om h=0),()):=acL _ _ _ _ _ _ _ _ _ _ _ _ _ _ _
abbrev flH (h:Hd) (b:Bool):Int × List Int × List (Int × Int) × List (List Int) × List Int × Int × Int × Int × Int × Int × Int × Int × List (Int × Int) × Int × List (Int × Int × Int × Int × Int × Int) × Bool:=(h.1,h.2.1,h.2.2.1,h.2.2.2.1,h.2.2.2.2.1,h.2.2.2.2.2.1,h.2.2.2.2.2.2.1,h.2.2.2.2.2.2.2.1,h.2.2.2.2.2.2.2.2.1,h.2.2.2.2.2.2.2.2.2.1,h.2.2.2.2.2.2.2.2.2.2.1,h.2.2.2.2.2.2.2.2.2.2.2.1,h.2.2.2.2.2.2.2.2.2.2.2.2.1,h.2.2.2.2.2.2.2.2.2.2.2.2.2.1,h.2.2.2.2.2.2.2.2.2.2.2.2.2.2,b)
theorem arw {N K:Nat} (n1:1<=N) (n2:N<=12) (k1:1<=K) (k2:K<=3):KH ((N:Int),(K:Int))=some (flH (hdN N K) true,()):=by
 have hm:maxLen=9223372036854775807:=by decide
 show KG BIG _=_;rw [apt,dz,dz,aH.2 (by omega),aH.2 (by omega)];simp only [bK,az,af];have g1:∀(s0:Hd),s0.2.1=[]->∀F:(Hd × Int->ah Hd)->Hd × Int->ah Hd,
   (∀self (s:Hd) (i:Nat),i<N->s.2.1.length=i->F self (s,(i:Int))=self ((s.1,s.2.1++[1+Int.tmod (i:Int) K],s.2.2),((i+1:Nat):Int)))->(∀self s,F self (s,(N:Int))=some s) ->
   aU BIG F (s0,0)=some (s0.1,Q5 N K,s0.2.2):=by
  intro s0 h0 F hF hE;rw [rangeLoop N (by omega) (fun i (s:Hd)=>s.2.1.length=i) (fun i s=>(s.1,s.2.1++[1+Int.tmod (i:Int) K],s.2.2)) id (by rw [h0];rfl) (fun i s _ h=>by simp [h]) (fun self s i hi h=>hF self s i hi h) (fun self s _=>hE self s),awV,h0];rfl
 rw [ak (by omega),au,ak (by omega),au,g1 _ rfl]
 ·rw [af,rangeLoop K (by omega) (fun i (s:Hd)=>s.2.2.2.1.length=i) (fun _ s=>(s.1,s.2.1,s.2.2.1,s.2.2.2.1++[Ae N],s.2.2.2.2)) id rfl (fun i s _ h=>by simp [h])]
  ·rw [awW];rfl
  ·intro self s i hi lH;simp only [show ((i:Int)<(K:Int)) from by omega,decide_true,au];rw [Q4 N [] (by omega) (fun e he=>by cases he) (by simp),af,ak (by simp;omega),au,dK (by omega)];rfl
  ·intro self s _;simp
 ·intro self s i hi hs;have:=aCc (i:=i) (k:=K) (by omega) (by omega);simp only [show ((i:Int)<(N:Int)) from by omega,decide_true,au];rw [aD (by omega),az,wr (by omega) (by omega),ak (by simp;omega),au,dK (by omega)]
 ·intro self s;simp
theorem aw_ {h h':Hd} {i op a b told:Int} (e:tkU h i op a b=flI h' told) (ht:told≠0):hfS h (1,i,op,a,b,0,0,false,[],[],0,0,[],0)=some h':=by
 have hx:hfR h (1,i,op,a,b,0,0,false,[],[],0,0,[],0)=frt (tkU h i op a b):=by
  unfold hfR;rw [if_pos rfl]
 unfold hfS;rw [hx,e];show (if told=0 then none else some _)=_;rw [if_neg ht];rfl
theorem axa {h h':Hd} {sh told:Int} {y:An} (e:heU h sh y=flI h' told) (ht:told≠0):hfS h (2,0,0,0,0,sh,y.1,y.2.1,y.2.2.1,y.2.2.2,0,0,[],0)=some h':=by
 have hx:hfR h (2,0,0,0,0,sh,y.1,y.2.1,y.2.2.1,y.2.2.2,0,0,[],0)=frt (heU h sh y):=by
  unfold hfR;rw [if_neg (show ¬(2:Int)=1 by omega),if_pos rfl]
 unfold hfS;rw [hx,e];show (if told=0 then none else some _)=_;rw [if_neg ht];rfl
theorem avd (x0 x1:Int) (x2:aa aL) (y:An) (h2:x2.length<=1048576) (h5:y.2.2.1.length<=1048576) (h6:y.2.2.2.length<=1048576) :
  ∃b,Dt (x0,x1,x2,y)=some (b,())/\(b=true↔(1<=x0/\x0<=3)/\0<=x1/\WOk x1.toNat x2/\(ze y=true\/je x1 y=true/\y.2.2.2=labs x1.toNat (aX x2 0))):=by
 have hm:maxLen=9223372036854775807:=by decide
 show ∃b,Lc BIG _=_/\_;rw [ap0,dz,af];by_cases h0:aS x0 1 3=true;case neg=>
  rw [show aS x0 1 3=false by simpa using h0];exact ⟨false,rfl,⟨(fun h=>by cases h),fun h=>absurd (aH.2 h.1) h0⟩⟩
 rw [h0];obtain ⟨b',b1',b2⟩:=MC x1 x2 h2;simp only [bK,az,b1',af];cases b' with
 | false=>
  refine ⟨false,rfl,⟨(fun h=>by cases h),fun h => ?_⟩⟩;have:=b2.2 ⟨h.2.1,h.2.2.1⟩;cases this
 | true=>
  obtain ⟨n0,hw⟩:=b2.1 rfl;simp only [bK,az];rw [Vf _ (by omega) (by omega),af];cases hb:ze y with
  | true=>exact ⟨true,rfl,⟨fun _=>⟨aH.1 h0,n0,hw,.inl rfl⟩,fun _=>rfl⟩⟩
  | false=>
   simp only [az];rw [II _ _ h5 h6,af];cases ha:je x1 y with
   | false=>exact ⟨false,rfl,⟨(fun h=>by cases h),fun h=>by
     rcases h.2.2.2 with h|⟨h,_⟩<;>cases h⟩⟩
   | true=>
    obtain ⟨m,rfl⟩:∃m:Nat,x1=(m:Int):=⟨x1.toNat,by omega⟩
    rw [eH] at hw ⊢;obtain ⟨V',v1',v2',_⟩:=Rn m x2 h2;rw [v2' hw] at v1';simp only [au];rw [v1',af,JO _ _ (by omega),af];refine ⟨_,rfl,?_⟩;rw [decide_eq_true_eq];exact ⟨fun h=>⟨aH.1 h0,n0,hw,.inr ⟨by trivial,h⟩⟩,fun h=>by
     rcases h.2.2.2 with h|⟨_,h⟩
     ·cases h
     ·exact h⟩
theorem WN (n:Int) (L:aa aL) (e:Ed) (hL:L.length<=1000000):∃r:Int × aa aL × Bool,wK ((n,L),e)=some (r,())/\r.2.1.length<=67/\(¬(0<=n/\WOk n.toNat L/\fD n e=true/\e∉gE L)->r=(0,[],false))/\((0<=n/\WOk n.toNat L/\fD n e=true/\e∉gE L)->r=(n,L.filter (fun y=>lsB (y.1,y.2.1) e)++[(e.1,e.2,0,!decide (dw n.toNat L 0 e.1=dw n.toNat L 0 e.2))]++L.filter (fun y=>lsB e (y.1,y.2.1)),true)):=by
 have hm:maxLen=9223372036854775807:=by decide
 have hgl:(gE L).length=L.length:=by unfold gE;rw [fE]
 have hGs:l6 (n,L)=some ((n,gE L),()):=DI n L (by omega);obtain ⟨b',b1',b2⟩:=MC n L (by omega);show ∃r:Int × aa aL × Bool,P6 BIG _=_/\_;rw [atL,hGs,af];simp only;simp only [aq5 n (gE L) e (by omega),b1',af];cases b' with
 | false=>exact ⟨_,rfl,by simp,fun _=>rfl,fun h=>absurd (b2.2 ⟨h.1,h.2.1⟩) (by simp)⟩
 | true=>
  obtain ⟨n0,hw⟩:=b2.1 rfl;obtain ⟨m,rfl⟩:∃m:Nat,n=(m:Int):=⟨n.toNat,by omega⟩
  rw [eH] at hw;have hg:=hw.gr;obtain ⟨h1,gT⟩:=Rm hg;obtain ⟨oD,hgn,hL6⟩:=l9 hg;have akF:Cz (gE L):=by
   have h:=hg;unfold mO at h;rw [aM] at h;exact (o9 h.2).2.1
  simp only [bK,az];unfold WB;rw [hg,gz];by_cases hc:(fD (m:Int) e && !decide (e∈gE L))=true;case neg=>
   rw [if_neg hc];exact ⟨_,rfl,by simp,fun _=>rfl,fun h=>absurd (by rw [h.2.2.1,aD h.2.2.2];rfl) hc⟩
  rw [if_pos hc];simp only [aM,pU,decide_eq_false_iff_not] at hc;obtain ⟨he,bv⟩:=hc;have lX:=il he;simp only [bK,af,az];have hll:=gp m (aX L 0)
  -- the place
  have hkk:L.findIdx (fun y=>!lsB (y.1,y.2.1) e)<=L.length:=List.findIdx_le_length;have hpl:∀j (hj:j<L.length),j<L.findIdx (fun y=>!lsB (y.1,y.2.1) e)->lsB (L[j].1,L[j].2.1) e=true:=by
   intro j hj bZ;have:=List.not_of_lt_findIdx bZ;simpa using this
  have hps:∀hj:L.findIdx (fun y=>!lsB (y.1,y.2.1) e)<L.length,lsB (L[L.findIdx (fun y=>!lsB (y.1,y.2.1) e)].1,L[L.findIdx (fun y=>!lsB (y.1,y.2.1) e)].2.1) e=false:=by
   intro hj;have:=List.findIdx_getElem (w:=hj);simpa using this
  generalize L.findIdx (fun y=>!lsB (y.1,y.2.1) e)=kk at hkk hpl hps;obtain ⟨q1,q2⟩:=put_eq akF bv hkk hpl hps;have akG:0<=(m:Int)/\WOk (m:Int).toNat L/\fD (m:Int) e=true/\e∉gE L:=⟨n0,by rw [eH];exact hw,he,bv⟩
  refine ⟨((m:Int),L.filter (fun y=>lsB (y.1,y.2.1) e)++[(e.1,e.2,0,!decide (dw m L 0 e.1=dw m L 0 e.2))]++L.filter (fun y=>lsB e (y.1,y.2.1)),true),?_,?_,fun h=>absurd akG h,fun _=>by rw [eH]⟩
  ·-- the reference
   obtain ⟨hE,hEn,hEl⟩:=Mw hg 0;obtain ⟨r,b,r1,r2,r3⟩:=AU (n:=m) L 0 h1 gT (by omega) hE;obtain ⟨Fs,rfl,hF⟩:=r3 (r2.2 hw.nc);obtain ⟨ja,pa,a1,a2,a3⟩:=sH hE hF gT h1 e.1 lX.1 lX.2.1;obtain ⟨jb,pb,c1,c2,c3⟩:=sH hE hF gT h1 e.2 lX.2.2.1 lX.2.2.2.1;have akz:((ja:Int)=(jb:Int))↔dw m L 0 e.1=dw m L 0 e.2:=by
    rw [lC hg 0 ⟨lX.1,lX.2.1⟩ ⟨lX.2.2.1,lX.2.2.2.1⟩];constructor
    ·intro h;have:ja=jb:=by omega
     subst this;rw [a1,aK] at c1;subst c1;have hG:=hF.gt pa (iA a1);exact ((hG.con hE _).1 a2).symm.trans ((hG.con hE _).1 c2)
    ·intro h;have:=hF.idx hE a1 c1 a2 c2 h;omega
   have hd:decide ((ja:Int)=(jb:Int))=decide (dw m L 0 e.1=dw m L 0 e.2):=by
    by_cases h:dw m L 0 e.1=dw m L 0 e.2
    ·rw [ak h,ak (akz.2 h)]
    ·rw [aD h,aD (fun h'=>h (akz.1 h'))]
   rw [r1,af];simp only;rw [a3,af,c3,af,au0 _ _ (by omega),af];simp only;rw [hd]
  ·rw [q1,q2];simp only [bq,eU,kX,bA,bB];omega
theorem Ru (n:Int) (L:aa aL) (e:Ed) (hL:L.length<=1000000):∃r:Int × aa aL × Int × Int × Bool × Bool,l7 ((n,L),e)=some (r,())/\r.2.1.length<=66/\(¬(0<=n/\WOk n.toNat L/\e∈gE L)->r=(0,[],0,0,false,false))/\((0<=n/\WOk n.toNat L/\e∈gE L)->∃old,old∈L/\(old.1,old.2.1)=e/\r.1=n/\r.2.2.2.2.2=true/\r.2.1=if old.2.2.2=true then (Co n.toNat e (old.2.2.1.toNat+1) (L.filter fun y=>decide ((y.1,y.2.1)≠e))).1 else L.filter fun y=>decide ((y.1,y.2.1)≠e)):=by
 have hm:maxLen=9223372036854775807:=by decide
 have hgl:(gE L).length=L.length:=by unfold gE;rw [fE]
 have hGs:l6 (n,L)=some ((n,gE L),()):=DI n L (by omega);obtain ⟨b',b1',b2⟩:=MC n L (by omega);show ∃r:Int × aa aL × Int × Int × Bool × Bool,Lj BIG _=_/\_;rw [ap_,b1',af,hGs];cases b' with
 | false=>exact ⟨_,rfl,by simp,fun _=>rfl,fun h=>absurd (b2.2 ⟨h.1,h.2.1⟩) (by simp)⟩
 | true=>
  obtain ⟨n0,hw⟩:=b2.1 rfl;obtain ⟨m,rfl⟩:∃m:Nat,n=(m:Int):=⟨n.toNat,by omega⟩
  rw [eH] at hw;have hg:=hw.gr;obtain ⟨h1,gT⟩:=Rm hg;obtain ⟨oD,hgn,hL6⟩:=l9 hg;simp only [bK,az,af];rw [aaZ _ _ _ (by omega),af];by_cases bF:e∈gE L;case neg=>
   rw [aD bF];exact ⟨_,rfl,by simp,fun _=>rfl,fun h=>absurd h.2.2 bF⟩
  rw [ak bF];simp only [bK,az,af];have lX:=il (oD e bF)
  -- the lost one and the others
  have ls:aU BIG (fun self5 x4=>
  bif decide (x4.2.2<(L.length:Int)) then
   Option.bind (Option.bind (bnd L.length x4.2.2 fun n6=>
    Option.bind L[n6]? fun y7=>
    bif decide (y7.1=e.1) then
     bnd L.length x4.2.2 fun n8=>
     Option.bind L[n8]? fun y9=>
     some (decide (y9.2.1=e.2))
    else some false:ah (Bool)) fun x10=>
    bif x10 then
     bnd L.length x4.2.2 fun n11=>
     Option.bind L[n11]? fun y12=>
     some (y12,x4.2.1)
    else bnd L.length x4.2.2 fun n13=>
    Option.bind L[n13]? fun y14=>
    bif decide (x4.2.1.2.length+[y14].length<=4294967296) then
     some (x4.1,(x4.2.1.1,x4.2.1.2++[y14]))
    else none:ah ((Int × Int × Int × Bool) × (Int × aa (Int × Int × Int × Bool)))) fun x15=>
   self5 (x15.1,x15.2,IntKind.wrap .i64 (x4.2.2+(1:Int)))
  else some (x4.1,x4.2.1)) ((((0:Int),(0:Int),(0:Int),false),((m:Int),[]),(0:Int)):aL × (Int × aa aL) × Int)=some ((L.foldl (pg e) (((0:Int),(0:Int),(0:Int),false),[])).1,((m:Int),(L.foldl (pg e) (((0:Int),(0:Int),(0:Int),false),[])).2)):=by
   refine qI (fun (x:aL × (Int × aa aL) × Int)=>∃i:Nat,i<=L.length/\x=(((L.take i).foldl (pg e) (((0:Int),(0:Int),(0:Int),false),[])).1,((m:Int),((L.take i).foldl (pg e) (((0:Int),(0:Int),(0:Int),false),[])).2),(i:Int))) (fun x=>L.length-x.2.2.toNat) (fun _=>_) (fun self x ⟨i,h1,h2⟩ hs => ?_) (n:=BIG) (x:=_) (by simp [BIG];omega) ⟨0,by omega,rfl⟩;subst h2;simp only;by_cases hi:i<L.length
   ·have yS:=aCo e L i;have bi:∀{B:Type} {q:Nat->ah B},bnd L.length (i:Int) q=q i:=fun {B q}=>aJ hi
    simp only [show ((i:Int)<(L.length:Int)) from by omega,decide_true,au,bi,aZ hi,af];rw [dK (by omega)];have jG:(L.take (i+1)).foldl (pg e) (((0:Int),(0:Int),(0:Int),false),[])=pg e ((L.take i).foldl (pg e) (((0:Int),(0:Int),(0:Int),false),[])) L[i]:=by
     rw [Og hi,CX];rfl
    have hn:=hs (((L.take (i+1)).foldl (pg e) (((0:Int),(0:Int),(0:Int),false),[])).1,((m:Int),((L.take (i+1)).foldl (pg e) (((0:Int),(0:Int),(0:Int),false),[])).2),((i+1:Nat):Int)) ⟨i+1,hi,rfl⟩ (by simp;omega);rw [jG] at hn;unfold pg at hn;by_cases c1:L[i].1=e.1
    ·rw [ak c1,au,af];by_cases c2:L[i].2.1=e.2
     ·rw [ak c2,au,af];rw [if_pos ⟨c1,c2⟩] at hn;exact hn
     ·rw [aD c2,az,ak (by simp only [bA,bB];omega),au,af];rw [if_neg (fun h=>c2 h.2)] at hn;exact hn
    ·rw [aD c1,az,af,az,ak (by simp only [bA,bB];omega),au,af];rw [if_neg (fun h=>c1 h.1)] at hn;exact hn
   ·simp only [show ¬((i:Int)<(L.length:Int)) from by omega,decide_false,az];have:i=L.length:=by omega
    subst this;rw [u7]
  rw [ls,af];obtain ⟨s1,s2,s3⟩:=Ta e L (((0:Int),(0:Int),(0:Int),false)) [];have kg:=s3 (by
   obtain ⟨y,hy,zm⟩:=cK.1 bF
   exact ⟨y,hy,zm⟩)
  rw [dN] at s1;generalize L.foldl (pg e) (((0:Int),(0:Int),(0:Int),false),[])=S at s1 kg;obtain ⟨old,rest⟩:=S;simp only at s1 kg ⊢;obtain ⟨kg,arW⟩:=kg;have akG:0<=(m:Int)/\WOk (m:Int).toNat L/\e∈gE L:=⟨n0,by rw [eH];exact hw,bF⟩
  have gX:rest.Sublist L:=by rw [s1];exact List.filter_sublist
  have hrl:=gX.length_le;have gY:mO m (gE rest)=true:=by
   have hsE:(gE rest).Sublist (gE L):=List.Sublist.map _ gX;have akF:Cz (gE L):=by
    have h:=hg;unfold mO at h;rw [aM] at h;exact (o9 h.2).2.1
   have hG:GrOk (m:Int) (gE rest):=⟨by omega,by omega,List.Pairwise.sublist hsE akF,fun x hx=>oD x (hsE.subset hx)⟩
   unfold mO;rw [show aS (m:Int) 1 12=true from aH.2 (by omega),Q3 hG (by unfold gE;rw [fE];omega)];rfl
  have JV:NoCyc (NV rest):=by
   have:NoCyc (NV L):=by rw [aEj hw.lv];exact hw.nc
   exact this.sub fun x hx=>(List.Sublist.map _ (List.Sublist.filter _ gX)).subset hx
  have lW:=hw.lv old kg;cases ht:old.2.2.2 with
  | false=>
   exact ⟨((m:Int),rest,(0:Int),(0:Int),false,true),rfl,by simp only;omega,fun h=>absurd akG h,fun _=>⟨old,kg,arW,rfl,rfl,by rw [if_neg (by rw [ht];simp)];exact s1⟩⟩
  | true=>
   have W9:old.2.2.1=((old.2.2.1.toNat+1:Nat):Int)-1:=by omega
   have t2:=aGe ⟨lX.1,lX.2.1⟩ ⟨lX.2.2.1,lX.2.2.2.1⟩ (old.2.2.1.toNat+1) (by omega) rest ⟨gY,JV⟩;rw [<-W9] at t2;simp only [bK,az];rw [t2,af];have hl:=ajS m e (old.2.2.1.toNat+1) rest;rw [eH];subst s1;generalize JZ:Co m e (old.2.2.1.toNat+1) (L.filter fun y=>decide ((y.1,y.2.1)≠e))=t at hl;obtain ⟨M,o⟩:=t;simp only at hl;cases o with
   | none=>exact ⟨_,rfl,by simp only;omega,fun h=>absurd akG h,fun _=>⟨old,kg,arW,rfl,rfl,by rw [if_pos ht,JZ]⟩⟩
   | some y=>exact ⟨_,rfl,by simp only;omega,fun h=>absurd akG h,fun _=>⟨old,kg,arW,rfl,rfl,by rw [if_pos ht,JZ]⟩⟩
noncomputable def uT (W:Wb) (e:Ed):Int × aa aL × Int × Int × Bool × Bool:=((l7 (W,e)).getD ((0,[],0,0,false,false),())).1
noncomputable def yL (W:Wb) (e:Ed):Int × aa aL × Bool:=((wK (W,e)).getD ((0,[],false),())).1
theorem aj0 {W:Wb} (e:Ed) (h:W.2.length<=1000000):l7 (W,e)=some (uT W e,())/\(uT W e).2.1.length<=66:=by
 obtain ⟨n,L⟩:=W;obtain ⟨r,h2,h3,_⟩:=Ru n L e h;have:uT (n,L) e=r:=by unfold uT;rw [h2];rfl
 rw [this];exact ⟨h2,h3⟩
theorem ave {W:Wb} (e:Ed) (h:W.2.length<=1000000):wK (W,e)=some (yL W e,())/\(yL W e).2.1.length<=67:=by
 obtain ⟨n,L⟩:=W;obtain ⟨r,h2,h3,_⟩:=WN n L e h;have:yL (n,L) e=r:=by unfold yL;rw [h2];rfl
 rw [this];exact ⟨h2,h3⟩
noncomputable def jR (v:Int) (s:Wb × aa Ed) (y:Ed):Wb × aa Ed:=if y.1=v\/y.2=v then (((uT s.1 y).1,(uT s.1 y).2.1),s.2++[y]) else s
noncomputable def lM (s:Wb × Bool) (y:Ed):Wb × Bool:=(if (yL s.1 y).2.2=true then ((yL s.1 y).1,(yL s.1 y).2.1) else s.1,s.2&&(yL s.1 y).2.2)
theorem WP (v:Int):∀(es:aa Ed) (s:Wb × aa Ed),s.1.2.length<=1000000->(es.foldl (jR v) s).1.2.length<=1000000/\(es.foldl (jR v) s).2.length<=s.2.length+es.length
 | [],s,h=>⟨h,by simp⟩
 | y::es,s,h=>by
  rw [iR];have h1:=(aj0 y h).2;by_cases hc:y.1=v\/y.2=v
  ·have hs:jR v s y=(((uT s.1 y).1,(uT s.1 y).2.1),s.2++[y]):=by unfold jR;rw [if_pos hc]
   obtain ⟨a,b⟩:=WP v es (jR v s y) (by rw [hs];simp only;omega);refine ⟨a,?_⟩;rw [hs] at b ⊢;simp only [bq,bA,bB] at b ⊢;omega
  ·have hs:jR v s y=s:=by unfold jR;rw [if_neg hc]
   obtain ⟨a,b⟩:=WP v es (jR v s y) (by rw [hs];exact h);refine ⟨a,?_⟩;rw [hs] at b ⊢;simp only [bA];omega
theorem aj1:∀(es:aa Ed) (s:Wb × Bool),s.1.2.length<=1000000->(es.foldl lM s).1.2.length<=1000000
 | [],s,h=>h
 | y::es,s,h=>by
  rw [iR];have h1:=(ave y h).2;refine aj1 es _ ?_;unfold lM;simp only;split
  ·simp only;omega
  ·exact h
section
variable (x0 n:Int) (L:aa aL) (y:An) (hL:L.length<=1000000)
include hL
theorem al1 (v num:Int) (E:aa Ed) (hE:E.length<=1000000):aU BIG (fun self20 x19=>
   bif decide (x19.2.2<(E.length:Int)) then
    Option.bind (Option.bind (bnd E.length x19.2.2 fun n21=>
     Option.bind E[n21]? fun y22=>
     bif decide (y22.1=v) then
      some true
     else bnd E.length x19.2.2 fun n23=>
     Option.bind E[n23]? fun y24=>
     some (decide (y24.2=v)):ah (Bool)) fun x25=>
     bif x25 then
      bnd E.length x19.2.2 fun n26=>
      Option.bind E[n26]? fun y27=>
      Option.bind (l7 (x19.1,y27)) fun r28=>
      bnd E.length x19.2.2 fun n29=>
      Option.bind E[n29]? fun y30=>
      bif decide (x19.2.1.2.2.1.length+[y30].length<=4294967296) then
       some ((r28.1.1,r28.1.2.1),(x19.2.1.1,x19.2.1.2.1,x19.2.1.2.2.1++[y30],x19.2.1.2.2.2))
      else none
     else some (x19.1,x19.2.1):ah ((Int × aa (Int × Int × Int × Bool)) × (Int × Bool × aa (Int × Int) × aa (Int)))) fun x31=>
    self20 (x31.1,x31.2,IntKind.wrap .i64 (x19.2.2+(1:Int)))
   else some (x19.1,x19.2.1)) (((n,L),(num,true,[],[]),(0:Int)):Wb × An × Int)=some ((E.foldl (jR v) ((n,L),[])).1,(num,true,(E.foldl (jR v) ((n,L),[])).2,[])):=by
 have hm:maxLen=9223372036854775807:=by decide
 refine qI (fun (x:Wb × An × Int)=>∃i:Nat,i<=E.length/\x=(((E.take i).foldl (jR v) ((n,L),[])).1,(num,true,((E.take i).foldl (jR v) ((n,L),[])).2,[]),(i:Int))) (fun x=>E.length-x.2.2.toNat) (fun _=>_) (fun self x ⟨i,h1,h2⟩ hs => ?_) (n:=BIG) (x:=_) (by simp [BIG];omega) ⟨0,by omega,rfl⟩;subst h2;simp only;by_cases hi:i<E.length
 ·obtain ⟨l1,l2⟩:=WP v (E.take i) ((n,L),[]) hL;rw [eU] at l2;simp only [bB] at l2;have hn:=hs (((E.take (i+1)).foldl (jR v) ((n,L),[])).1,(num,true,((E.take (i+1)).foldl (jR v) ((n,L),[])).2,[]),((i+1:Nat):Int)) ⟨i+1,hi,rfl⟩ (by simp;omega);rw [afu _ _ hi] at hn;obtain ⟨t1,t3⟩:=aj0 E[i] l1;generalize (E.take i).foldl (jR v) ((n,L),[])=s at l1 l2 hn t1 t3;obtain ⟨W,out⟩:=s;simp only at l1 l2 t1 t3;unfold jR at hn;have bi:∀{B:Type} {q:Nat->ah B},bnd E.length (i:Int) q=q i:=fun {B q}=>aJ hi
  simp only [show ((i:Int)<(E.length:Int)) from by omega,decide_true,au,bi,aZ hi,af];rw [dK (by omega)];have hc:(bif decide (E[i].1=v) then some true else some (decide (E[i].2=v)):ah Bool)=some (decide (E[i].1=v\/E[i].2=v)):=by
   by_cases c1:E[i].1=v<;>by_cases c2:E[i].2=v<;>simp [c1,c2]
  rw [hc,af];by_cases c:E[i].1=v\/E[i].2=v
  ·rw [ak c,au,t1,af,ak (by simp only [bA,bB];omega),au,af];rw [if_pos c] at hn;exact hn
  ·rw [aD c,az,af];rw [if_neg c] at hn;exact hn
 ·simp only [show ¬((i:Int)<(E.length:Int)) from by omega,decide_false,az];have:i=E.length:=by omega
  subst this;rw [u7]
theorem arx (num:Int) (E:aa Ed) (hE:E.length<=1000000):aU BIG (fun self7 x6=>
   bif decide (x6.2.2<(E.length:Int)) then
    Option.bind (bnd E.length x6.2.2 fun n8=>
     Option.bind E[n8]? fun y9=>
     Option.bind (wK (x6.1,y9)) fun r10=>
     Option.bind (bif r10.1.2.2 then
      some (r10.1.1,r10.1.2.1)
      else some x6.1:ah ((Int × aa (Int × Int × Int × Bool)))) fun x11=>
     Option.bind (bif x6.2.1.2.1 then
      some (x6.2.1.1,r10.1.2.2,x6.2.1.2.2)
      else some (x6.2.1.1,false,x6.2.1.2.2):ah ((Int × Bool × aa (Int × Int) × aa (Int)))) fun x12=>
     some (x11,x12):ah ((Int × aa (Int × Int × Int × Bool)) × (Int × Bool × aa (Int × Int) × aa (Int)))) fun x13=>
    self7 (x13.1,x13.2,IntKind.wrap .i64 (x6.2.2+(1:Int)))
   else some (x6.1,x6.2.1)) (((n,L),(num,true,[],[]),(0:Int)):Wb × An × Int)=some ((E.foldl lM ((n,L),true)).1,(num,(E.foldl lM ((n,L),true)).2,[],[])):=by
 have hm:maxLen=9223372036854775807:=by decide
 refine qI (fun (x:Wb × An × Int)=>∃i:Nat,i<=E.length/\x=(((E.take i).foldl lM ((n,L),true)).1,(num,((E.take i).foldl lM ((n,L),true)).2,[],[]),(i:Int))) (fun x=>E.length-x.2.2.toNat) (fun _=>_) (fun self x ⟨i,h1,h2⟩ hs => ?_) (n:=BIG) (x:=_) (by simp [BIG];omega) ⟨0,by omega,rfl⟩;subst h2;simp only;by_cases hi:i<E.length
 ·have l1:=aj1 (E.take i) ((n,L),true) hL;have hn:=hs (((E.take (i+1)).foldl lM ((n,L),true)).1,(num,((E.take (i+1)).foldl lM ((n,L),true)).2,[],[]),((i+1:Nat):Int)) ⟨i+1,hi,rfl⟩ (by simp;omega);rw [afu _ _ hi] at hn;obtain ⟨t1,t3⟩:=ave E[i] l1;generalize (E.take i).foldl lM ((n,L),true)=s at l1 hn t1 t3;obtain ⟨W,al⟩:=s;simp only at l1 t1 t3;unfold lM at hn;simp only [show ((i:Int)<(E.length:Int)) from by omega,decide_true,au];rw [aJ hi,aZ hi,af,dK (by omega),t1,af];simp only at hn ⊢;cases a_:(yL W E[i]).2.2 with
  | true=>
   rw [a_] at hn;simp only [if_true,wW] at hn;cases al<;>exact hn
  | false=>
   rw [a_] at hn;simp only [eQ,if_false,IL] at hn;cases al<;>exact hn
 ·simp only [show ¬((i:Int)<(E.length:Int)) from by omega,decide_false,az];have:i=E.length:=by omega
  subst this;rw [u7]
end
theorem afv {n:Nat} {L:aa aL} (hw:WOk n L) {y:Ed} (hy:y∈gE L):(uT ((n:Int),L) y).1=n/\(uT ((n:Int),L) y).2.2.2.2.2=true/\WOk n (uT ((n:Int),L) y).2.1/\gE (uT ((n:Int),L) y).2.1=del (gE L) y:=by
 have hL6:=(l9 hw.gr).2.2;obtain ⟨r,h1,_,_,h5⟩:=Ru n L y (by omega);have hr:uT ((n:Int),L) y=r:=by unfold uT;rw [h1];rfl
 rw [hr];obtain ⟨old,o1,o2,o3,o4,o5⟩:=h5 ⟨by omega,by rw [eH];exact hw,hy⟩;rw [eH] at o5;have:=art hw o1 o2;rw [<-o5] at this;exact ⟨o3,o4,this.1,this.2⟩
theorem afw {n:Nat} {L:aa aL} (hw:WOk n L) {y:Ed} (he:fD n y=true) (hy:y∉gE L):(yL ((n:Int),L) y).1=n/\(yL ((n:Int),L) y).2.2=true/\WOk n (yL ((n:Int),L) y).2.1/\gE (yL ((n:Int),L) y).2.1=ins (gE L) y:=by
 have hL6:=(l9 hw.gr).2.2;obtain ⟨r,h1,_,_,h5⟩:=WN n L y (by omega);have hr:yL ((n:Int),L) y=r:=by unfold yL;rw [h1];rfl
 have h6:=h5 ⟨by omega,by rw [eH];exact hw,he,hy⟩;rw [eH] at h6;rw [hr,h6];exact ⟨rfl,rfl,au4 hw he hy⟩
theorem aAM {n:Nat} {L:aa aL} (hw:WOk n L) {y:Ed} (hy:y∉gE L):(uT ((n:Int),L) y).2.2.2.2.2=false:=by
 have hL6:=(l9 hw.gr).2.2;obtain ⟨r,h1,_,h5,_⟩:=Ru n L y (by omega);have hr:uT ((n:Int),L) y=r:=by unfold uT;rw [h1];rfl
 rw [hr,h5 (fun h=>hy h.2.2)]
theorem aoc {n:Nat} {L:aa aL} (hw:WOk n L) {y:Ed} (hy:y∈gE L):(yL ((n:Int),L) y).2.2=false:=by
 have hL6:=(l9 hw.gr).2.2;obtain ⟨r,h1,_,h5,_⟩:=WN n L y (by omega);have hr:yL ((n:Int),L) y=r:=by unfold yL;rw [h1];rfl
 rw [hr,h5 (fun h=>h.2.2.2 hy)]
theorem MH {n:Nat} (v:Int):∀(es:aa Ed) (L:aa aL) (out:aa Ed),WOk n L->es.Nodup->(∀y,y∈es->y∈gE L) ->
  (es.foldl (jR v) (((n:Int),L),out)).1.1=n/\WOk n (es.foldl (jR v) (((n:Int),L),out)).1.2/\(∀x,x∈gE (es.foldl (jR v) (((n:Int),L),out)).1.2↔x∈gE L/\¬(x∈es/\BL v x=true))/\(es.foldl (jR v) (((n:Int),L),out)).2=out++es.filter (BL v)
 | [],L,out,hw,_,_=>by simp [hw]
 | y::es,L,out,hw,hn,bF=>by
  rw [oG] at hn;rw [iR];by_cases hc:y.1=v\/y.2=v
  ·have hs:jR v (((n:Int),L),out) y=(((uT ((n:Int),L) y).1,(uT ((n:Int),L) y).2.1),out++[y]):=by unfold jR;rw [if_pos hc]
   obtain ⟨t1,_,t3,t4⟩:=afv hw (bF y (dX ..));rw [hs,t1];obtain ⟨g1,g2,g3,g4⟩:=MH v es (uT ((n:Int),L) y).2.1 (out++[y]) t3 hn.2 (fun z hz=>by
    rw [t4,o8]
    exact ⟨bF z (dU _ hz),by rintro rfl;exact hn.1 hz⟩)
   refine ⟨g1,g2,fun x => ?_,?_⟩
   ·rw [g3,t4,o8,aY];constructor
    ·rintro ⟨⟨h1,h2⟩,h3⟩;refine ⟨h1,?_⟩;rintro ⟨rfl|h4,h5⟩
     ·exact h2 rfl
     ·exact h3 ⟨h4,h5⟩
    ·rintro ⟨h1,h2⟩;refine ⟨⟨h1,?_⟩,fun h=>h2 ⟨.inr h.1,h.2⟩⟩;rintro rfl;exact h2 ⟨.inl rfl,by unfold BL;rw [ak hc]⟩
   ·rw [g4,List.filter_cons_of_pos (by unfold BL;rw [ak hc]),fJ];rfl
  ·have hs:jR v (((n:Int),L),out) y=(((n:Int),L),out):=by unfold jR;rw [if_neg hc]
   rw [hs];obtain ⟨g1,g2,g3,g4⟩:=MH v es L out hw hn.2 (fun z hz=>bF z (dU _ hz));have sQ:¬BL v y=true:=by unfold BL;rw [aD hc];simp
   refine ⟨g1,g2,fun x => ?_,?_⟩
   ·rw [g3,aY];constructor
    ·rintro ⟨h1,h2⟩;refine ⟨h1,?_⟩;rintro ⟨rfl|h4,h5⟩
     ·exact sQ h5
     ·exact h2 ⟨h4,h5⟩
    ·rintro ⟨h1,h2⟩;exact ⟨h1,fun h=>h2 ⟨.inr h.1,h.2⟩⟩
   ·rw [g4,List.filter_cons_of_neg sQ]
theorem afx (v:Int):∀(es:aa Ed) (s:Wb × aa Ed),es.filter (BL v)=[]->es.foldl (jR v) s=s
 | [],s,_=>rfl
 | y::es,s,h=>by
  have sQ:¬BL v y=true:=fun hh=>by
   rw [List.filter_cons_of_pos hh] at h
   cases h
  rw [List.filter_cons_of_neg sQ] at h
  have hs:jR v s y=s:=by
   unfold jR;rw [if_neg];intro hc;exact sQ (by unfold BL;rw [ak hc])
  rw [iR,hs]
  exact afx v es s h
theorem MI {n:Nat}:∀(es:aa Ed) (L:aa aL) (b:Bool),WOk n L->(∀y,y∈es->fD n y=true) ->
  (es.foldl lM (((n:Int),L),b)).1.1=n/\WOk n (es.foldl lM (((n:Int),L),b)).1.2/\(∀x,x∈gE (es.foldl lM (((n:Int),L),b)).1.2↔x∈gE L\/x∈es)/\(es.Nodup->(∀y,y∈es->y∉gE L)->(es.foldl lM (((n:Int),L),b)).2=b)
 | [],L,b,hw,_=>by simp [hw]
 | y::es,L,b,hw,he=>by
  rw [iR]
  have Hr:∀z,z∈es->fD n z=true:=fun z hz=>he z (dU _ hz)
  by_cases hy:y∈gE L
  ·have hb:=aoc hw hy
   have hs:lM (((n:Int),L),b) y=(((n:Int),L),false):=by
    unfold lM;simp only [hb,eQ,if_false,IL]
   rw [hs]
   obtain ⟨g1,g2,g3,g4⟩:=MI es L false hw Hr
   refine ⟨g1,g2,fun x => ?_,fun _ h=>absurd hy (h y (dX ..))⟩
   rw [g3,aY]
   constructor
   ·rintro (h|h)
    ·exact .inl h
    ·exact .inr (.inr h)
   ·rintro (h|rfl|h)
    ·exact .inl h
    ·exact .inl hy
    ·exact .inr h
  ·obtain ⟨t1,t2,t3,t4⟩:=afw hw (he y (dX ..)) hy
   have hs:lM (((n:Int),L),b) y=(((n:Int),(yL ((n:Int),L) y).2.1),b):=by
    unfold lM
    simp only [t2,if_true,wW]
    rw [t1]
   rw [hs]
   obtain ⟨g1,g2,g3,g4⟩:=MI es _ b t3 Hr
   refine ⟨g1,g2,fun x => ?_,fun hn h => ?_⟩
   ·rw [g3,t4,nk,aY]
    constructor
    ·rintro ((h|h)|h)
     ·exact .inr (.inl h)
     ·exact .inl h
     ·exact .inr (.inr h)
    ·rintro (h|h|h)
     ·exact .inl (.inr h)
     ·exact .inl (.inl h)
     ·exact .inr h
   ·rw [oG] at hn
    refine g4 hn.2 fun z hz hzi => ?_
    rw [t4,nk] at hzi
    rcases hzi with rfl|hzi
    ·exact hn.1 hz
    ·exact h z (dU _ hz) hzi
theorem ShR.oks {x0:Int} {n:Nat} {L:aa aL} {y:An} (h:ShR x0 n L y):Dt (x0,(n:Int),L,y)=some (true,()):=by
 have hl:=h.len;obtain ⟨b,b2,b3⟩:=avd x0 n L y (by omega) (by omega) (by omega);have:b=true:=b3.2 ⟨h.id,by omega,by rw [eH];exact h.web,by rw [eH];exact h.an⟩;rw [this] at b2;exact b2
theorem al2 {x0 : Int} {n : Nat} {L : aa aL} {y : An} (h : ShR x0 n L y) (o : qw) (ho : o.2.2.1.length ≤ 1048576) :
    (wL ((x0, (n : Int), L, y), o) = some (aGf, ()) ∧ (jQ n o = false ∨ (o.1 ≠ y.1 ∧ o.1 ≠ y.1 + 1))) ∨
    (wL ((x0, (n : Int), L, y), o) = some (ME x0 n L y, ()) ∧ jQ n o = true ∧ o.1 = y.1) ∨
    (jQ n o = true ∧ o.1 = y.1 + 1 ∧ ∃ (L' : aa aL) (z : An), wL ((x0, (n : Int), L, y), o) = some (ME x0 n L' z, ()) ∧ ShR x0 n L' z ∧ Dne n L L' o z) := by
  have b2 := h.oks;obtain ⟨hL, h1, h2, hy0, Ry⟩ := h.len;have hO2 := Mk n o ho;have hg := h.web.gr;have aG8 := Rm hg;have e2 := aAi BIG (x0, (n : Int), L, y) o;have f2 : acy BIG ((x0, (n : Int), L, y), o) = wL ((x0, (n : Int), L, y), o) := rfl;rw [f2] at e2;rw [b2, af] at e2;simp only [bK, az, hO2, af] at e2;cases hob : jQ n o with
  | false =>
    rw [hob] at e2;exact .inl ⟨e2, .inl rfl⟩
  | true =>
    rw [hob] at e2;simp only [bK, az] at e2;by_cases hn : o.1 = y.1
    · rw [ak hn, abp x0 n L y (by omega) (by omega) (by omega), wh y (by omega) (by omega)] at e2
      exact .inr (.inl ⟨e2, rfl, hn⟩)
    · rw [aD hn, wr (n := y.1 + 1) (by omega) (by omega)] at e2
      simp only [mF, au, af, az] at e2
      by_cases hw : o.1 = y.1 + 1
      case neg =>
        rw [aD hw] at e2;exact .inl ⟨e2, .inr ⟨hn, hw⟩⟩
      rw [ak hw] at e2
      simp only [bK, az] at e2
      refine .inr (.inr ⟨rfl, hw, ?_⟩)
      -- what follows every change
      have tail : ∀ (M : aa aL) (ok : Bool) (es : aa Ed) (q : ah ((Int × aa aL) × An)), q = some (((n : Int), M), (o.1, ok, es, [])) → WOk n M → mM n es = true →
          (Option.bind q fun x32 =>
  Option.bind (sj x32.1) fun r33 =>
  Option.bind (yh (x0, x32.1.1, x32.1.2, x32.2.1, x32.2.2.1, x32.2.2.2.1, r33.1)) fun r34 =>
  Option.bind (kJ (x32.2.1, x32.2.2.1, x32.2.2.2.1, r33.1)) fun r35 =>
  some ((r34.1.1, r34.1.2.1, r34.1.2.2.1, r34.1.2.2.2.1, r34.1.2.2.2.2.1, r34.1.2.2.2.2.2.1, r34.1.2.2.2.2.2.2, r35.1.1, r35.1.2.1, r35.1.2.2.1, r35.1.2.2.2, (0 : Int)), ())) = some (ME x0 n M (o.1, ok, es, labs n (aX M 0)), ()) ∧ ShR x0 n M (o.1, ok, es, labs n (aX M 0)) := by
        intro M ok es q hq hM sO;have hM6 := (l9 hM.gr).2.2;have aJf := g_ sO;have hll := gp n (aX M 0);obtain ⟨V', v1', v2', _⟩ := Rn n M (by omega);rw [v2' hM] at v1';have i2 := abp x0 n M (o.1, ok, es, labs n (aX M 0)) (by omega) (by simp only; omega) (by simp only; omega);have i3 := wh (o.1, ok, es, labs n (aX M 0)) (by simp only; omega) (by simp only; omega);subst hq;simp only [af, v1', i2, i3];refine ⟨rfl, h.id, hM, .inr ⟨?_, rfl⟩⟩;unfold je;unfold jQ at hob;simp only [aM] at hob ⊢;exact ⟨hob.1, hob.2.1, sO, an9 (mP hM.gr 0)⟩
      have axF := hob
      unfold jQ at axF
      simp only [aM] at axF
      obtain ⟨d1, _, d3, d4, d5⟩ := axF
      have d3' := aH.1 d3
      have hol := g_ d4
      have e0 : mM (n : Int) [] = true := by
        unfold mM;rw [if_pos (fun i hi => absurd hi (by simp))];rfl
      obtain ⟨oD, hgn, _⟩ := l9 hg
      have akF : Cz (gE L) := by
        have h := hg;unfold mO at h;rw [aM] at h;exact (o9 h.2).2.1
      by_cases c2' : o.2.1 = 2
      · rw [if_neg (by omega), if_neg (by omega)] at d5
        simp only [aM, decide_eq_true_eq] at d5
        obtain ⟨e, he⟩ := List.length_eq_one_iff.1 d5.1
        obtain ⟨t2, t3⟩ := aj0 (W := ((n : Int), L)) e (by simp only; omega)
        rw [ak c2', aD (show ¬ o.2.1 = 1 from by omega), aD (show ¬ o.2.1 = 4 from by omega), he] at e2
        by_cases bF : e ∈ gE L
        · obtain ⟨k1, k2, k3, k4⟩ := afv h.web bF
          obtain ⟨g2, g3⟩ := tail (uT ((n : Int), L) e).2.1 true [] (Option.bind (l7 (((n : Int), L), e)) fun r16 => Option.bind (bif r16.1.2.2.2.2.2 then some (r16.1.1, r16.1.2.1) else some ((n : Int), L)) fun x17 => some (x17, (o.1, r16.1.2.2.2.2.2, [], [])))
            (by rw [t2, af, k2, au, af, k1]) k3 e0
          refine ⟨_, _, e2.trans g2, g3, rfl, rfl, fun hc => by omega, fun _ => ⟨e, he, k4, by rw [ak bF], rfl⟩, fun hc => by omega⟩
        · have k2 := aAM h.web bF
          obtain ⟨g2, g3⟩ := tail L false [] (Option.bind (l7 (((n : Int), L), e)) fun r16 => Option.bind (bif r16.1.2.2.2.2.2 then some (r16.1.1, r16.1.2.1) else some ((n : Int), L)) fun x17 => some (x17, (o.1, r16.1.2.2.2.2.2, [], [])))
            (by rw [t2, af, k2, az, af]) h.web e0
          refine ⟨_, _, e2.trans g2, g3, rfl, rfl, fun hc => by omega, fun _ => ⟨e, he, ?_, by rw [aD bF], rfl⟩, fun hc => by omega⟩
          unfold del
          rw [List.filter_eq_self.2]
          intro z hz
          rw [pU, decide_eq_false_iff_not]
          rintro rfl
          exact bF hz
      · by_cases c3' : o.2.1 = 3
        · rw [aD c2', ak c3', aD (show ¬ o.2.1 = 1 from by omega), aD (show ¬ o.2.1 = 4 from by omega), az, af, az, az, au, DI n L (by omega), af] at e2
          have hgl : (gE L).length = L.length := by unfold gE; rw [fE]
          have r2 := al1 n L (by omega) o.2.2.2 o.1 (gE L) (by omega)
          obtain ⟨k1, k2, k3, k4⟩ := MH o.2.2.2 (gE L) L [] h.web hgn (fun _ hz => hz)
          have hfe : mM (n : Int) ((gE L).filter (BL o.2.2.2)) = true := by
            by_cases hn2 : 2 ≤ n
            · have hG := ars hg hn2
              exact Q3 ⟨hG.1, hG.2.1, akF.filter _, fun z hz => oD z (jT.1 hz).1⟩ (by
                have := sV (BL o.2.2.2) (gE L)
                omega)
            · have : gE L = [] := by
                cases aG9 : gE L with
                | nil => rfl
                | cons z zs =>
                  have := il (oD z (by rw [aG9]; exact dX ..));omega
              rw [this]
              exact e0
          obtain ⟨g2, g3⟩ := tail ((gE L).foldl (jR o.2.2.2) (((n : Int), L), [])).1.2 true ((gE L).filter (BL o.2.2.2)) (some (((gE L).foldl (jR o.2.2.2) (((n : Int), L), [])).1, (o.1, true, ((gE L).foldl (jR o.2.2.2) (((n : Int), L), [])).2, [])))
            (by rw [k4, dN]; congr 2; exact Prod.ext k1 rfl) k2 hfe
          refine ⟨_, _, e2.trans ((congrArg (fun q => Option.bind q _) r2).trans g2), g3, rfl, rfl, fun hc => by omega, fun hc => by omega, fun _ => ⟨fun x => ?_, rfl, rfl, fun axG => ?_⟩⟩
          · rw [k3]
            constructor
            · rintro ⟨p1, p2⟩
              refine ⟨p1, ?_⟩
              cases hc : BL o.2.2.2 x with
              | false => rfl
              | true => exact absurd ⟨p1, hc⟩ p2
            · rintro ⟨p1, p2⟩
              exact ⟨p1, fun hc => by rw [p2] at hc; cases hc.2⟩
          · have := afx o.2.2.2 (gE L) (((n : Int), L), []) axG
            rw [this]
        · rw [aD c2', aD c3'] at e2
          have r2 := arx n L (by omega) o.1 o.2.2.1 (by omega)
          have hc : (bif decide (o.2.1 = (1 : Int)) then some true else some (decide (o.2.1 = (4 : Int))) : ah Bool) = some true := by
            by_cases h : o.2.1 = 1
            · rw [ak h]; rfl
            · rw [aD h, ak (show o.2.1 = 4 from by omega)]; rfl
          rw [hc, af, au] at e2
          have RO := (o9 d4)
          obtain ⟨k1, k2, k3, k4⟩ := MI o.2.2.1 L true h.web RO.1
          obtain ⟨g2, g3⟩ := tail (o.2.2.1.foldl lM (((n : Int), L), true)).1.2 (o.2.2.1.foldl lM (((n : Int), L), true)).2 [] (some ((o.2.2.1.foldl lM (((n : Int), L), true)).1, (o.1, (o.2.2.1.foldl lM (((n : Int), L), true)).2, [], [])))
            (by congr 2; exact Prod.ext k1 rfl) k2 e0
          refine ⟨_, _, e2.trans ((congrArg (fun q => Option.bind q _) r2).trans g2), g3, rfl, rfl, fun _ => ⟨k3, fun hz => k4 (Rk RO.2.1) hz, rfl, fun e he => ?_⟩, fun hc => by omega, fun hc => by omega⟩
          show (o.2.2.1.foldl lM (((n : Int), L), true)).2 = _
          rw [he]
          show (lM (((n : Int), L), true) e).2 = _
          unfold lM
          by_cases bF : e ∈ gE L
          · rw [ak bF]
            simp only [aoc h.web bF, IL, bK]
          · rw [aD bF]
            simp only [(afw h.web (RO.1 e (by rw [he]; exact bY.2 rfl)) bF).2.1, p_, mF]
section
variable {n:Nat} {own:aa Int} {cuts:aa Ed} {lab:aa (aa Int)} {nums:aa Int} {said:aa Sd} {ss:aa zg} {g:aa Ed} {c:Nat} {x5 x6 x7 x8 x9 x10 x11:Int} {x12:aa Ed} {x13:Int}
theorem HP.hears {h:Hd} (hp:HP n h ss g c) (hb:om h≠0) (hc:c<80):∃(L:aa aL) (y:An) (L':aa aL) (z:An) (h':Hd) (told:Int) (g':aa Ed),(1<=om h/\om h<=ss.length)/\ss[(om h-1).toNat]?=some (L,y)/\ShR (om h) n L y/\(orO h).2.2.1.length<=66 /\
  wL ((om h,(n:Int),L,y),orO h)=some (ME (om h) n L' z,())/\ShR (om h) n L' z/\jQ n (orO h)=true/\je n z=true /\
  heU h (om h) z=flI h' told/\HP n h' (ss.set (om h-1).toNat (L',z)) g' (c+1) /\
  ((told=1/\om h'=0/\∃v,Rt h'=Rt h++[((qO h).1,(qO h).1,(qO h).2.1,(qO h).2.2.1,(qO h).2.2.2,v)]/\Rpl n g (qO h).2.1 (qO h).2.2.1 (qO h).2.2.2 v g')\/(told=2/\om h'≠0/\Rt h'=Rt h/\g'=g/\qO h'=qO h/\(orO h).2.1=3/\(orO h').2.1=4)):=by
 cases hp with
 | @mk own cuts lab nums said _ _ _ x5 x6 x7 x8 x9 x10 x11 x12 x13 hp hf iZ=>
  have hb:x9≠0:=hb;obtain ⟨r1,L,y,r2,r3,r4,r5⟩:=hp.ord hb iZ;obtain ⟨g0,hP⟩:=hp.ply;obtain ⟨hR0,hy⟩:=hP.sh _ _ _ r2;have BP:(((x9-1).toNat:Nat):Int)+1=x9:=by omega
  rw [BP] at hR0;have aG_:=hp.x12l;rcases al2 hR0 (x10,x11,x12,x13) (by simp only;omega) with ⟨_,q|q⟩|⟨_,_,q⟩|⟨_,_,L',z,o2,hR,hD⟩
  ·rw [r3] at q;cases q
  ·exact absurd r4 q.2
  ·have q:x10=y.1:=q;omega
  obtain ⟨own',cuts',t5,t6,t7,t8,t9,t10,t11,t12,t13,said',told,g',e1,e2,e3⟩:=ava hp hb r1.1 r2 r4 hR hD;have hz1:z.1=x10:=hD.num;have hza:je n z=true:=by
   rcases hR.an with N7|⟨ha,_⟩
   ·unfold ze at N7;simp only [aM,decide_eq_true_eq] at N7;have:=hR0.len.2.2.2.1;omega
   ·exact ha
  have a_:Rl (n:Int) own cuts lab nums x5 x6 x7 x8 x9 x10 x11 x12 x13 said x9 z=true:=by
   unfold Rl;rw [hp.hd iZ,hza,aD hb,ak rfl,ak hz1];rfl
  have he:heU ((n:Int),own,cuts,lab,nums,x5,x6,x7,x8,x9,x10,x11,x12,x13,said) x9 z=flI ((n:Int),own',cuts',lab.set (x9-1).toNat z.2.2.2,nums.set (x9-1).toNat z.1,t5,t6,t7,t8,t9,t10,t11,t12,t13,said') told:=by
   show heR (n:Int) own cuts lab nums x5 x6 x7 x8 x9 x10 x11 x12 x13 said x9 z=_;unfold heR;rw [if_pos a_,e1]
  refine ⟨L,y,L',z,_,told,g',r1,r2,hR0,aG_,o2,hR,r3,hza,he,.mk e2 ?_ (by omega),?_⟩
  ·rcases e3 with ⟨_,_,v,rfl,hr⟩|⟨_,_,rfl,rfl,_⟩
   ·exact ajZ hf hr
   ·exact hf
  ·rcases e3 with ⟨s1,s2,v,s3,hr⟩|⟨s1,s2,s3,s4,s5,s6,s7,s8,s9,s10⟩
   ·exact .inl ⟨s1,s2,v,s3,hr⟩
   ·exact .inr ⟨s1,s2,s3,s4,by show (t5,t6,t7,t8)=(x5,x6,x7,x8);rw [s5,s6,s7,s8],s9,s10⟩
end
theorem aj2 {S α:Type} (st:S->α->ah S):∀(a:aa α) (y:α) (s:S),fM st s (a++[y])=(fM st s a).bind fun s'=>st s' y
 | [],y,s=>by
  show (st s y).bind (fun s'=>some s')=st s y;cases st s y<;>rfl
 | x::a,y,s=>by
  rw [nC,fM,fM];cases st s x with
  | none=>rfl
  | some s'=>simp only [af,aj2 st a y]
def RcB (r:Rc):Prop:=r.2.2.2.2.2.2.2.2.1.length<=66/\r.2.2.2.2.2.2.2.2.2.1.length<=12/\r.2.2.2.2.2.2.2.2.2.2.2.2.1.length<=66
def RcsB (l:aa Rc) (i:Nat):Prop:=l.length<=i/\∀r,r∈l->RcB r
theorem RcsB.add {l:aa Rc} {i:Nat} (h:RcsB l i) {r:Rc} (hr:RcB r):RcsB (l++[r]) (i+1):=by
 refine ⟨by rw [bq,bA,bB];have:=h.1;omega,fun x hx => ?_⟩;rcases bP.1 hx with hx|hx
 ·exact h.2 x hx
 ·rw [bY.1 hx];exact hr
theorem RcsB.up {l:aa Rc} {i:Nat} (h:RcsB l i):RcsB l (i+1):=⟨by have:=h.1;omega,h.2⟩
def gQ (n:Int) (r:Rc):aa UInt8:=match jv n r with|some t=>(match zf t with|some u=>u|none=>[])|none=>[]
def eG (n:Int) (rs:aa Rc):aa UInt8:=rs.flatMap (gQ n)
def JrOk (n:Int) (rs:aa Rc):Prop:=∀r,r∈rs->∃t,jv n r=some t
theorem Rv {n:Int} {r:Rc} {t:aa UInt8} (h:jv n r=some t):zf t=some (gQ n r)/\gQ n r=(vB t.length++Mq (smT 4294967295 t))++t/\6<=(gQ n r).length/\(gQ n r).length<=409:=by
 have hl:=Ah h;have hf:zf t=some ((vB t.length++Mq (smT 4294967295 t))++t):=by
  unfold zf;rw [show aS (t.length:Int) 1 9000=true from aH.2 (by omega),if_pos rfl]
 have he:gQ n r=(vB t.length++Mq (smT 4294967295 t))++t:=by unfold gQ;rw [h];simp only [hf]
 have h5:=eO (v:=t.length) (by omega);have h1:1<=(vB t.length).length:=by
  by_cases g:t.length<=127
  ·rw [SI g];simp
  ·rw [aq7 (by omega) (by omega)];simp
 refine ⟨by rw [he,hf],he,?_,?_⟩
 ·rw [he,bq,bq,sG];omega
 ·rw [he,bq,bq,sG];omega
theorem axb {n:Int} {r:Rc} {t:aa UInt8} (h:jv n r=some t) (P R:aa UInt8):fA (P++gQ n r++R) P.length=some (t,P.length+(gQ n r).length):=by
 have hl:=Ah h;obtain ⟨hf,he,h6,_⟩:=Rv h;have hd:(P++gQ n r++R).drop P.length=gQ n r++R:=by rw [fJ,Ka]
 have hr:zb ((P++gQ n r++R).drop P.length)=some (t.length,(vB t.length).length):=by
  rw [hd,he,fJ,fJ];exact abl (by omega) _
 have bJ:(gQ n r).length=(vB t.length).length+4+t.length:=by rw [he,bq,bq,sG]
 have hu:uFr (P++gQ n r++R) P.length (vB t.length).length t.length=t:=by
  unfold uFr;rw [show P.length+(vB t.length).length+4=P.length+((vB t.length).length+4) from by omega,<-List.drop_drop,hd,he,fJ,List.drop_append];rw [List.drop_eq_nil_of_le (by rw [bq,sG];omega),dN,bq,sG,A9,FY,C8]
 unfold fA;rw [hr];simp only;rw [if_pos,hu,bJ]
 ·congr 2;omega
 ·refine ⟨by omega,by rw [bq,bq,bJ];omega,?_⟩;rw [hu,hf,hd,<-bJ,C8]
theorem aAN {n:Int} {r:Rc} {t:aa UInt8} (h:jv n r=some t) (P:aa UInt8) {k:Nat} (hk:k<(gQ n r).length):fA (P++(gQ n r).take k) P.length=none:=by
 have hl:=Ah h;obtain ⟨hf,he,h6,_⟩:=Rv h;have bJ:(gQ n r).length=(vB t.length).length+4+t.length:=by rw [he,bq,bq,sG]
 have hd:(P++(gQ n r).take k).drop P.length=(gQ n r).take k:=Ka;cases hA:fA (P++(gQ n r).take k) P.length with
 | none=>rfl
 | some x=>
  exfalso;obtain ⟨U,b⟩:=x;have hA':=hA;obtain ⟨a1,a2,a3,a4,a5⟩:=aba hA;unfold fA at hA';cases hr:zb ((P++(gQ n r).take k).drop P.length) with
  | none=>rw [hr] at hA';cases hA'
  | some y=>
   obtain ⟨v,m⟩:=y;rw [hr] at hA';simp only at hA';split at hA';case isFalse=>cases hA'
   case isTrue hc=>
    obtain ⟨i1,i2,i3,i4,i5⟩:=Fq hr;rw [hd] at i2 i5;rw [eU] at i5;have hv:vB v=(gQ n r).take m:=by rw [i2,List.take_take,Nat.min_eq_left (by omega)]
    have hj:gQ n r=vB v++(gQ n r).drop m:=by rw [hv,RX]
    have e1:zb (gQ n r)=some (v,(vB v).length):=by rw [hj];exact abl i1 _
    have e2:zb (gQ n r)=some (t.length,(vB t.length).length):=by
     rw [he,fJ];exact abl (by omega) _
    rw [e1] at e2;have e3:=Aq e2;have e4:=congrArg Prod.fst e3;have e5:=congrArg Prod.snd e3;simp only at e4 e5;have hm:m=(vB v).length:=by rw [hv,eU];omega
    have:=hc.2.1;rw [bq,eU] at this;omega
theorem WQ (n:Int) (r:Rc) (rs:aa Rc):eG n (r::rs)=gQ n r++eG n rs:=by simp [eG]
theorem sI (n:Int) (r:Rc) (rs:aa Rc):eG n (rs++[r])=eG n rs++gQ n r:=by simp [eG]
theorem acT {n:Int}:∀{rs:aa Rc},JrOk n rs->(eG n rs).length<=409*rs.length
 | [],_=>by simp [eG]
 | r::rs,h=>by
  obtain ⟨t,ht⟩:=h r (dX ..);have h1:=(Rv ht).2.2.2;have h2:=acT (rs:=rs) fun x hx=>h x (dU _ hx)
  rw [WQ,bq,bA];omega
theorem ayU {n:Int} {Q:aa UInt8}:∀(rs:aa Rc) (P:aa UInt8),JrOk n rs->fA (P++eG n rs++Q) (P++eG n rs).length=none->(G6 n (uf (P++eG n rs++Q) P.length).1)=(rs,(eG n rs).length)
 | [],P,_,hQ=>by
  have hz:eG n []=[]:=rfl;rw [hz,kY] at hQ ⊢;rw [anQ hQ];rfl
 | r::rs,P,h,hQ=>by
  obtain ⟨t,ht⟩:=h r (dX ..);have e1:P++eG n (r::rs)=(P++gQ n r)++eG n rs:=by rw [WQ,fJ]
  rw [e1] at hQ ⊢;have hf:=axb ht P (eG n rs++Q);rw [<-fJ] at hf;have ih:=ayU rs (P++gQ n r) (fun x hx=>h x (dU _ hx)) hQ;rw [bq] at ih;rw [anR hf];simp only [G6,au6 ht,ih];rw [WQ,bq];have:abb t=(gQ n r).length:=by unfold abb;rw [(Rv ht).1]
  rw [this]
theorem avf {n:Int} {rs:aa Rc} (h:JrOk n rs) (Q:aa UInt8) (hQ:fA (eG n rs++Q) (eG n rs).length=none) (hl:(eG n rs++Q).length<=20000):rdR n (eG n rs++Q)=(rs,((eG n rs).length:Int)):=by
 have:=ayU (n:=n) (Q:=Q) rs [] h (by simpa using hQ);simp only [dN,bB] at this;unfold rdR;rw [if_pos hl,this]
theorem Te {n:Int} {rs:aa Rc} (h:JrOk n rs) (hl:(eG n rs).length<=20000):rdR n (eG n rs)=(rs,((eG n rs).length:Int)):=by
 have:=avf h [] (aCg (by simp)) (by simpa using hl);simpa using this
theorem aAO {n:Int} {rs:aa Rc} {r:Rc} (h:JrOk n (rs++[r])) {k:Nat} (hk:k<(gQ n r).length) (hl:(eG n (rs++[r])).length<=20000):rdR n (eG n rs++(gQ n r).take k)=(rs,((eG n rs).length:Int)):=by
 obtain ⟨t,ht⟩:=h r (by simp);refine avf (fun x hx=>h x (jc _ hx)) _ (aAN ht _ hk) ?_;rw [sI,bq] at hl;rw [bq,eU];omega
theorem MJ (c:GX) (l:aa Int) (hc:l8 c) (h0:0<l.length) (hl:l.length<=1000000):∃b c',lL (c,l)=some (b,c')/\l8 c'/\b∈l:=by
 have e:lL (c,l)=B_ BIG (c,l):=rfl;obtain ⟨r,c',k,o,a,b,_⟩:=kR c l.length hc (by omega);have b:=b (by omega);rw [e,afT,k,af,dO a b,aZ (by omega)];exact ⟨_,_,rfl,o,u6 _⟩
theorem aCv (c:GX) (hc:l8 c) (n k i:Int) (pu:0<n) (hn:n<=100) (hk0:0<k) (hk:k<=100):∃op a b c',Pk (c,n,k,i)=some ((i,op,a,b),c')/\l8 c'/\(0<=op/\op<=5)/\a<=200/\b<=200:=by
 show ∃op a b c',Pj BIG _=_/\_;rw [atp];obtain ⟨r0,c0,k0,o0,m0⟩:=MJ c [1,1,1,1,2,2,3,3,4] hc (by simp) (by simp);have m0:0<=r0/\r0<=5:=by
  simp only [aY,nD,or_false] at m0;omega
 obtain ⟨r1,c1,k1,o1,_,l1,_⟩:=kR c0 n o0 (by omega);obtain ⟨r2,c2,k2,o2,_,l2,_⟩:=kR c1 n o1 (by omega);have l1:=l1 pu;have l2:=l2 pu;rw [k0,af];simp only;rw [k1,af];simp only;rw [k2,af];simp only;have hx:∃c3 op a b,(bif decide (r0=(4:Int)) then Option.bind (iC (c2,k)) fun r3=>some (r3.2,(i,r0,r1,IntKind.wrap .i64 ((1:Int)+r3.1))) else some (c2,(i,r0,r1,r2)):ah (GX × (Int × Int × Int × Int)))=some (c3,(i,op,a,b))/\l8 c3/\(0<=op/\op<=5)/\a<=200/\b<=200:=by
  by_cases h:r0=4
  ·obtain ⟨r3,c3,k3,o3,p3,l3,_⟩:=kR c2 k o2 (by omega);have l3:=l3 hk0;rw [ak h,au,k3,af];exact ⟨_,_,_,_,rfl,o3,m0,by omega,by rw [wr (by omega) (by omega)];omega⟩
  ·rw [aD h,az];exact ⟨_,_,_,_,rfl,o2,m0,by omega,by omega⟩
 obtain ⟨c3,op,a',b',hx,o3,m1,m2,m3⟩:=hx;rw [hx,af];simp only;obtain ⟨r5,c5,k5,o5,_⟩:=kR c3 30 o3 (by omega);rw [k5,af];simp only;by_cases h0:r5=0
 ·obtain ⟨r6,c6,k6,o6,m6⟩:=MJ c5 [-1,n,11,12] o5 (by simp) (by simp);simp only [aY,nD,or_false] at m6;rw [ak h0,au,k6,af,af];exact ⟨_,_,_,_,rfl,o6,m1,by omega,m3⟩
 rw [aD h0,az];by_cases h1:r5=1
 ·obtain ⟨r6,c6,k6,o6,m6⟩:=MJ c5 [-1,0,n,12] o5 (by simp) (by simp);simp only [aY,nD,or_false] at m6;rw [ak h1,au,k6,af,af];exact ⟨_,_,_,_,rfl,o6,m1,m2,by omega⟩
 rw [aD h1,az];by_cases h2:r5=2
 ·obtain ⟨r6,c6,k6,o6,m6⟩:=MJ c5 [0,5] o5 (by simp) (by simp);simp only [aY,nD,or_false] at m6;rw [ak h2,au,k6,af,af];exact ⟨_,_,_,_,rfl,o6,by omega,m2,m3⟩
 ·rw [aD h2,az,af];exact ⟨_,_,_,_,rfl,o5,m1,m2,m3⟩
theorem axc {n i op a b:Int} (h1:0<=i/\i<=100000) (h2:0<=op/\op<=100000) (h3:0<=a/\a<=100000) (h4:0<=b/\b<=100000):∃t,jv n (1,i,op,a,b,0,0,false,[],[],0,0,[],0)=some t:=by
 have hc:((decide ((0:Int)=0)&&(ze (0,false,[],[])&&yF (0,0,[],0)))&&(aS i 0 100000&&(aS op 0 100000&&(aS a 0 100000&&aS b 0 100000))))=true:=by
  rw [aH.2 h1,aH.2 h2,aH.2 h3,aH.2 h4];rfl
 unfold jv;exact ⟨_,(if_pos rfl).trans (if_pos hc)⟩
theorem axd {n s:Int} {z:An} (h1:0<=s/\s<=100000) (h2:je n z=true):∃t,jv n (2,0,0,0,0,s,z.1,z.2.1,z.2.2.1,z.2.2.2,0,0,[],0)=some t:=by
 have hc:((CE 0 0 0 0&&(yF (0,0,[],0)&&aS s 0 100000))&&je n z)=true:=by
  rw [aH.2 h1,h2];rfl
 unfold jv;exact ⟨_,(if_neg (show ¬(2:Int)=1 by decide)).trans ((if_pos rfl).trans (if_pos hc))⟩
theorem JrOk.jradd {n:Int} {l:aa Rc} (h:JrOk n l) {r:Rc} (hr:∃t,jv n r=some t):JrOk n (l++[r]):=by
 intro x hx;rcases bP.1 hx with hx|hx
 ·exact h x hx
 ·rw [bY.1 hx];exact hr
theorem al3 (c : GX) (hc : l8 c) (a : aa Int) (ha : a.length ≤ 1048576) (who : Int) : ∃ (n K : Nat) (h : Hd) (ss : aa zg) (g : aa Ed) (k : Nat) (hr own : aa Rc) (c' : GX),
    Lm (c, a, who) = some (((n : Int), (K : Int), if 0 < who then own else hr), c') ∧ l8 c' ∧ (2 ≤ n ∧ n ≤ 12) ∧ (1 ≤ K ∧ K ≤ 3) ∧ RcsB hr 40 ∧ RcsB own 40 ∧ HP n h ss g k ∧ fM hfS (hdN n K) hr = some h ∧ JrOk n hr := by
  have hm : maxLen = 9223372036854775807 := by decide
  show ∃ n K h ss g k hr own c', Ll BIG _ = _ ∧ _;rw [aqc];obtain ⟨n0, c0, k0, o0, hn2, aG8⟩ := aAo c hc;obtain ⟨n, rfl⟩ : ∃ n : Nat, n0 = (n : Int) := ⟨n0.toNat, by omega⟩
  obtain ⟨r1, c1, k1, o1, a1, b1, _⟩ := kR c0 3 o0 (by omega);have b1 := b1 (by omega);obtain ⟨K, hK⟩ : ∃ K : Nat, 1 + r1 = (K : Int) := ⟨(1 + r1).toNat, by omega⟩
  rw [k0, af];simp only;rw [k1, af];simp only;rw [wr (n := 1 + r1) (by omega) (by omega), hK];rw [arw (by omega) (by omega) (by omega) (by omega), af];simp only [flH];have hP0 := HP.new (n := n) (k := K) (by omega) (by omega) (by omega) (by omega);generalize hh0 : hdN n K = h0 at hP0 ⊢;refine fK (P := fun o => ∃ (n' K' : Nat) (h : Hd) (ss : aa zg) (g : aa Ed) (k : Nat) (hr own : aa Rc) (c' : GX), o = some (((n' : Int), (K' : Int), if 0 < who then own else hr), c') ∧ l8 c' ∧ (2 ≤ n' ∧ n' ≤ 12) ∧ (1 ≤ K' ∧ K' ≤ 3) ∧ RcsB hr 40 ∧ RcsB own 40 ∧ HP n' h ss g k ∧ fM hfS (hdN n' K') hr = some h ∧ JrOk n' hr)
    (fun (s : aa Shr × Int) => ∃ (i : Nat), s.2 = (i : Int) ∧ 1 ≤ i ∧ i ≤ K + 1 ∧ s.1.length + 1 = i ∧ ∀ j, j < s.1.length → s.1[j]? = some ((j : Int) + 1, (n : Int), [], (0, false, [], []))) (fun s => 8 - s.2.toNat)
    (fun _ (S : aa Shr) => S.length = K ∧ ∀ j, j < S.length → S[j]? = some ((j : Int) + 1, (n : Int), [], (0, false, [], []))) (by simp [BIG]) ⟨1, rfl, by omega, by omega, rfl, fun j hj => absurd hj (by simp)⟩ (fun self s hx hs => ?_) (fun b hb => ?_)
  · obtain ⟨S, j⟩ := s
    obtain ⟨i, h1, hi1, hi, hl, hS⟩ := hx
    simp only at h1 hl hS hs ⊢
    subst h1
    by_cases hik : i ≤ K
    · rw [ak (by omega), au, alV, if_pos (by rw [aH.2 (by omega), aH.2 (by omega)]; rfl), af]
      rw [ak (by simp only [bA, bB]; omega), au, dK (by omega)]
      refine hs _ ⟨i + 1, rfl, by omega, by omega, by simp only [bq, bA, bB]; omega, fun j hj => ?_⟩ (by simp; omega)
      simp only [bq, bA, bB] at hj
      simp only
      by_cases uX : j < S.length
      · rw [rH uX]
        exact hS j uX
      · rw [vE (by omega), show j - S.length = 0 by omega, show (j : Int) + 1 = (i : Int) by omega]
        rfl
    · rw [aD (by omega), az]
      exact ⟨_, rfl, by omega, hS⟩
  · obtain ⟨hS1, hS2⟩ := hb
    have aHa : SLR n b (List.replicate K ([], (0, false, [], []))) := by
      refine ⟨by rw [FV]; exact hS1, fun j L y hj => ?_⟩;have uX := (bn hj).1;rw [FV] at uX;have := iA hj;rw [List.mem_replicate] at this;cases this.2;exact hS2 j (by omega)
    obtain ⟨v, s1, s2, s3⟩ := arv a ha
    have hv2 : Int.tdiv v 2 = v / 2 := aoC s2
    refine fK (P := fun o => ∃ (n' K' : Nat) (h : Hd) (ss : aa zg) (g : aa Ed) (k : Nat) (hr own : aa Rc) (c' : GX), o = some (((n' : Int), (K' : Int), if 0 < who then own else hr), c') ∧ l8 c' ∧ (2 ≤ n' ∧ n' ≤ 12) ∧ (1 ≤ K' ∧ K' ≤ 3) ∧ RcsB hr 40 ∧ RcsB own 40 ∧ HP n' h ss g k ∧ fM hfS (hdN n' K') hr = some h ∧ JrOk n' hr)
      (fun (s : GX × Hd × aa Rc × aa Shr × aa Rc × Int) => ∃ (i : Nat) (ss : aa zg) (g : aa Ed), s.2.2.2.2.2 = (i : Int) ∧ i ≤ 40 ∧ l8 s.1 ∧ SLR n s.2.2.2.1 ss ∧ HP n s.2.1 ss g i ∧ RcsB s.2.2.1 i ∧ RcsB s.2.2.2.2.1 i ∧ (fM hfS h0 s.2.2.1 = some s.2.1 ∧ JrOk n s.2.2.1)) (fun s => 40 - s.2.2.2.2.2.toNat)
      (fun _ (b : GX × aa Rc × aa Rc) => ∃ (h : Hd) (ss : aa zg) (g : aa Ed) (k : Nat), l8 b.1 ∧ HP n h ss g k ∧ RcsB b.2.1 40 ∧ RcsB b.2.2 40 ∧ (fM hfS h0 b.2.1 = some h ∧ JrOk n b.2.1)) (by simp [BIG]) ⟨0, _, _, rfl, by omega, o1, aHa, hP0, ⟨by simp, fun r hr => (by cases hr)⟩, ⟨by simp, fun r hr => (by cases hr)⟩, rfl, fun r hr => (by cases hr)⟩ (fun self s hx hs => ?_) (fun b hb => ?_)
    · obtain ⟨cu, h, hl, S, own, j⟩ := s
      obtain ⟨i, ss, g, h1, hi, hcu, hSL, hP, hRh, hRo, hF, hJ⟩ := hx
      simp only at h1 hcu hSL hP hRh hRo hF hJ hs ⊢
      subst h1
      obtain ⟨r6, c6, k6, o6, a6, b6, b6'⟩ := kR cu (v / 2) hcu (by omega)
      rw [s1, af, aD (by omega), az]
      simp only
      rw [hv2, wr (n := v / 2) (by omega) (by omega), k6, af]
      simp only
      have hr6 : r6 ≤ 30 := by
        by_cases h : 0 < v / 2
        · have := b6 h; omega
        · have := b6' (by omega); omega
      rw [wr (n := 2 + r6) (by omega) (by omega)]
      have up40 : ∀ {l : aa Rc}, RcsB l i → RcsB l 40 := fun h => ⟨by have := h.1; omega, h.2⟩
      by_cases hiv : (i : Int) < 2 + r6
      case neg =>
        rw [aD hiv, az];exact ⟨_, rfl, h, ss, g, i, o6, hP, up40 hRh, up40 hRo, hF, hJ⟩
      rw [ak hiv, au]
      have hz := hP.sz
      have bJ := hP.len
      have hlh := hRh.1
      have hlo := hRo.1
      rw [aAL h, af]
      by_cases hb : om h = 0
      · rw [ak hb]
        simp only [bK, mF, au]
        rw [dK (by omega)]
        obtain ⟨op, a', b', c7, k7, o7, ng, RF, di⟩ := aCv c6 o6 (n : Int) (K : Int) ((i + 1 : Nat) : Int) (by omega) (by omega) (by omega) (by omega)
        rw [k7, af]
        simp only
        rw [aAA hz, af]
        obtain ⟨h', told, g', e1, e2, _⟩ := hP.take (by omega) ((i + 1 : Nat) : Int) op a' b'
        rw [e1]
        have hx : ∃ (h2 : Hd) (bb : Bool), (bif !decide (told = (0 : Int)) then
          bif decide ((0 : Int) ≤ a') then
           some (h', decide ((0 : Int) ≤ b'))
          else some (h', false)
         else some (h', false) : ah (Hd × Bool)) = some (h2, bb) ∧ h2 = h' ∧ (bb = true → told ≠ 0 ∧ 0 ≤ a' ∧ 0 ≤ b') := by
          by_cases ht : told = 0
          · rw [ak ht]
            exact ⟨h', false, rfl, rfl, fun h => by cases h⟩
          · rw [aD ht]
            by_cases h0' : 0 ≤ a'
            · rw [ak h0']
              exact ⟨h', _, rfl, rfl, fun hh => ⟨ht, h0', of_decide_eq_true hh⟩⟩
            · rw [aD h0']
              exact ⟨h', _, rfl, rfl, fun hh => by cases hh⟩
        obtain ⟨h2, bb, hx, hh2, hbt⟩ := hx
        subst hh2
        simp only [flI]
        rw [hx, af]
        simp only
        cases bb with
        | false =>
          simp only [az, af];exact hs _ ⟨i + 1, ss, g, rfl, by omega, o7, hSL, hP.up (by omega), hRh.up, hRo.up, hF, hJ⟩ (by simp; omega)
        | true =>
          simp only [au];rw [ak (by simp only [bA, bB]; omega), au, af, af];refine hs _ ⟨i + 1, ss, g', rfl, by omega, o7, hSL, e2, hRh.add ⟨by simp, by simp, by simp⟩, hRo.up, ?_, ?_⟩ (by simp; omega)
          · simp only
            rw [aj2, hF, af]
            exact aw_ e1 (hbt rfl).1
          · obtain ⟨_, z1, z2⟩ := hbt rfl
            exact hJ.jradd (axc (by omega) (by omega) (by omega) (by omega))
      · rw [aD hb]
        simp only [mF, bK, az]
        obtain ⟨L, y, L', z, h', told, g', q1, q2, q3, q4, q6, q7, q8, q9, q10, q11, q12⟩ := hP.hears hb (by omega)
        obtain ⟨p1, p2⟩ := hSL.at q1.1 q2
        have hzl := q7.len
        have q6' : wL ((om h, (n : Int), L, y), (h.2.2.2.2.2.2.2.2.2.2.1, h.2.2.2.2.2.2.2.2.2.2.2.1, h.2.2.2.2.2.2.2.2.2.2.2.2.1, h.2.2.2.2.2.2.2.2.2.2.2.2.2.1)) = some (ME (om h) n L' z, ()) := q6
        have hw1 : IntKind.wrap .i64 (h.2.2.2.2.2.2.2.2.2.1 - 1) = om h - 1 := wr (n := om h - 1) (by omega) (by omega)
        rw [hw1, dO (by omega) (by omega), p2, af, q6', af, dO (by omega) (by omega), p2, af]
        have bv : told ≠ 0 := by
          rcases q12 with ⟨r, _⟩ | ⟨r, _⟩ <;> omega
        have FQ : ∃ own', (bif decide (h.2.2.2.2.2.2.2.2.2.1 = who) then
        bif decide (own.length + ([((3 : Int), (0 : Int), (0 : Int), (0 : Int), (0 : Int), (0 : Int), (0 : Int), false, ([] : aa (Int × Int)), ([] : aa Int), h.2.2.2.2.2.2.2.2.2.2.1, h.2.2.2.2.2.2.2.2.2.2.2.1, h.2.2.2.2.2.2.2.2.2.2.2.2.1, h.2.2.2.2.2.2.2.2.2.2.2.2.2.1)]).length ≤ 4294967296) then
         some (own ++ ([((3 : Int), (0 : Int), (0 : Int), (0 : Int), (0 : Int), (0 : Int), (0 : Int), false, [], [], h.2.2.2.2.2.2.2.2.2.2.1, h.2.2.2.2.2.2.2.2.2.2.2.1, h.2.2.2.2.2.2.2.2.2.2.2.2.1, h.2.2.2.2.2.2.2.2.2.2.2.2.2.1)]))
        else none
       else some own : ah (aa Rc)) = some own' ∧ RcsB own' (i + 1) := by
          by_cases hw : h.2.2.2.2.2.2.2.2.2.1 = who
          · rw [ak hw, au, ak (by simp only [bA, bB]; omega), au]
            exact ⟨_, rfl, hRo.add ⟨by simp, by simp, q4⟩⟩
          · rw [aD hw, az]
            exact ⟨_, rfl, hRo.up⟩
        obtain ⟨own', FQ, aHb⟩ := FQ
        rw [FQ, af]
        have hh : Jy (h, h.2.2.2.2.2.2.2.2.2.1, ((ME (om h) (n : Int) L' z).2.2.2.2.2.2.2.1, (ME (om h) (n : Int) L' z).2.2.2.2.2.2.2.2.1, (ME (om h) (n : Int) L' z).2.2.2.2.2.2.2.2.2.1, (ME (om h) (n : Int) L' z).2.2.2.2.2.2.2.2.2.2.1)) = some (flI h' told, ()) := (aAB hz (om h) z (by omega) (by omega)).trans (by rw [q10])
        rw [hh, af, ak (by simp only [bA, bB]; omega), au, af]
        simp only
        rw [dK (by omega)]
        refine hs _ ⟨i + 1, ss.set (om h - 1).toNat (L', z), g', rfl, by omega, o6, hSL.set q1.1 L' z, q11, hRh.add ⟨by show z.2.2.1.length ≤ 66; omega, by show z.2.2.2.length ≤ 12; omega, by simp⟩, aHb, ?_, ?_⟩ (by simp; omega)
        · simp only
          rw [aj2, hF, af]
          exact axa q10 bv
        · exact hJ.jradd (axd (s := om h) (by obtain ⟨_, _, hss, _⟩ := bJ; have := q1.1; have := q1.2; omega) q9)
    · obtain ⟨cu, hr, own⟩ := b
      obtain ⟨h, ss, g, k, q1, q2, q3, q4, q5, q6⟩ := hb
      simp only at q1 q3 q4 q5 q6 ⊢
      by_cases hw : 0 < who
      · rw [ak hw, au]
        exact ⟨n, K, h, ss, g, k, hr, own, cu, by rw [if_pos hw], q1, by omega, by omega, q3, q4, q2, by rw [hh0]; exact q5, q6⟩
      · rw [aD hw, az]
        exact ⟨n, K, h, ss, g, k, hr, own, cu, by rw [if_neg hw], q1, by omega, by omega, q3, q4, q2, by rw [hh0]; exact q5, q6⟩
abbrev dR:ByteArray:=ByteArray.mk #[108,111,103]
abbrev dY:ByteArray:=ByteArray.mk #[108,111,103,43]
abbrev dk1 (T:List UInt8) (k:Int):List Fl:=[(dR,BA T,k)]
abbrev dk2 (T:List UInt8) (k:Int) (U:List UInt8) (j:Int):List Fl:=[(dR,BA T,k),(dY,BA U,j)]
theorem yM:dR.toList=[108,111,103]:=pI [108,111,103]
theorem uU:dY.toList=[108,111,103,43]:=pI [108,111,103,43]
theorem Rw:ByteArray.empty.toList=[]:=pI []
theorem aEm:(ByteArray.mk #[]).toList=[]:=pI []
theorem ary:(ByteArray.mk #[108,111,103]).toList=[108,111,103]:=pI [108,111,103]
theorem ayV:(ByteArray.mk #[108,111,103,43]).toList=[108,111,103,43]:=pI [108,111,103,43]
theorem WR:NR []=true:=by
 unfold NR;rw [if_pos fun i hi=>absurd hi (by simp)];rfl
theorem avg {a:aa Fl} {T:aa UInt8} {k:Int} (hT:T.length<=20000) (h0:0<=k) (hk:k<=T.length):fQ a 0 (dR,BA T,k)=true:=by
 unfold fQ;simp only [bE,aM,decide_eq_true_eq];exact ⟨by decide,hT,aH.2 ⟨h0,hk⟩,rfl⟩
theorem aCw {T U:aa UInt8} {k j:Int} (hU:U.length<=20000) (h0:0<=j) (hj:j<=U.length):fQ (dk2 T k U j) 1 (dY,BA U,j)=true:=by
 unfold fQ;simp only [bE,aM,decide_eq_true_eq];refine ⟨by decide,hU,aH.2 ⟨h0,hj⟩,?_⟩;rw [if_neg (by omega)];show Op.bytesLess dR.toList dY.toList=true;rw [yM,uU];rfl
theorem AY {T:aa UInt8} {k:Int} (hT:T.length<=20000) (h0:0<=k) (hk:k<=T.length):NR (dk1 T k)=true:=by
 unfold NR;rw [if_pos]
 ·rfl
 ·intro i hi;have:i=0:=by simp at hi;omega
  subst this;rw [agH rfl];exact avg hT h0 hk
theorem agJ {T U:aa UInt8} {k j:Int} (hT:T.length<=20000) (h0:0<=k) (hk:k<=T.length) (hU:U.length<=20000) (j0:0<=j) (hj:j<=U.length):NR (dk2 T k U j)=true:=by
 unfold NR;rw [if_pos]
 ·rfl
 ·intro i hi;have:i=0\/i=1:=by simp at hi;omega
  rcases this with rfl|rfl
  ·rw [agH rfl];exact avg hT h0 hk
  ·rw [agH rfl];exact aCw hU j0 hj
theorem aod (b:ByteArray):fI [] b = -1:=rfl
theorem aCx (T:aa UInt8) (k:Int):fI (dk1 T k) dR=0:=by simp [fI,R5,ary]
theorem ayW (T:aa UInt8) (k:Int):fI (dk1 T k) dY = -1:=by simp [fI,R5,ary,ayV]
theorem aCy (T:aa UInt8) (k:Int) (U:aa UInt8) (j:Int):fI (dk2 T k U j) dY=1:=by simp [fI,R5,ary,ayV]
theorem WS (b:ByteArray):JP [] b=(BA [],false):=rfl
theorem abt (T:aa UInt8) (k:Int):JP (dk1 T k) dR=(BA T,true):=by simp [JP,R5,ary]
abbrev pP (f:Fl) (y:Fl):Bool:=Op.bytesLess y.1.toList f.1.toList
abbrev pQ (f:Fl) (y:Fl):Bool:=!(Op.bytesLess y.1.toList f.1.toList || y.1.toList == f.1.toList)
theorem wS (a:aa Fl) (f:Fl) (hl:a.length<=1000):BF (a,f)=some (a.filter (pP f)++[f]++a.filter (pQ f),()):=by
 have hm:maxLen=9223372036854775807:=by decide
 show Qn BIG _=_;rw [atX,jZ a (by omega) (fun i (c:aa Fl)=>c.length<=i) (fun c y=>if pP f y then c++[y] else c) id (by simp) (fun i c y _ (h:c.length<=i)=>by show List.length (if _ then _ else _)<=_;split<;>(try simp)<;>omega)]
 ·rw [kU];simp only [id,dN,af];have h1:=sV (pP f) a;rw [ak (by simp;omega),au,jZ a (by omega) (fun i (c:aa Fl)=>c.length<=a.length+1+i) (fun c y=>if pQ f y then c++[y] else c) id (by simp;omega) (fun i c y _ (h:c.length<=_)=>by show List.length (if _ then _ else _)<=_;split<;>(try simp)<;>omega)]
  ·rw [kU];rfl
  ·intro self c i y hy (hc:c.length<=_);have hi:=(bn hy).1;simp only [show ((i:Int)<(a.length:Int)) from by omega,decide_true,au];simp only [aJ hi,hy,af,dK (show i<maxLen from by omega)];show (Option.bind (bif pQ f y then _ else _) _)=_;cases pQ f y with
   | false=>simp
   | true=>simp [show c.length+1<=4294967296 from by omega]
  ·intro self c hc;simp
 ·intro self c i y hy (hc:c.length<=i);have hi:=(bn hy).1;simp only [show ((i:Int)<(a.length:Int)) from by omega,decide_true,au];simp only [aJ hi,hy,af,dK (show i<maxLen from by omega)];show (Option.bind (bif pP f y then _ else _) _)=_;cases pP f y with
  | false=>simp
  | true=>simp [show c.length+1<=4294967296 from by omega]
 ·intro self c hc;simp
theorem agp (a:aa Fl) (b:ByteArray) (hl:a.length<=1000):vo (a,b)=some (a.filter (fun y=>!(y.1.toList == b.toList)),()):=by
 have hm:maxLen=9223372036854775807:=by decide
 show Cf BIG _=_;rw [af4,jZ a (by omega) (fun i (c:aa Fl)=>c.length<=i) (fun c y=>if !(y.1.toList == b.toList) then c++[y] else c) id (by simp) (fun i c y _ (h:c.length<=i)=>by show List.length (if _ then _ else _)<=_;split<;>(try simp)<;>omega)]
 ·rw [kU];rfl
 ·intro self c i y hy (hc:c.length<=i);have hi:=(bn hy).1;simp only [show ((i:Int)<(a.length:Int)) from by omega,decide_true,au];simp only [aJ hi,hy,af,dK (show i<maxLen from by omega)];cases y.1.toList == b.toList with
  | true=>simp
  | false=>simp [show c.length+1<=4294967296 from by omega]
 ·intro self c hc;simp
theorem JR {a : aa Fl} (hl : a.length ≤ 1000) (hd : NR a = true) {k : Int} {b t u : ByteArray} (hb : aS (b.size : Int) 1 8 = true) (hu : k ≠ 3 → u.toList = []) (ht : k ≠ 1 → t.toList = []) :
    (Option.bind (sw a) fun r0 =>
   bif !r0.1 then
    some true
   else Option.bind (tO b) fun r1 =>
   bif !r1.1 then
    some true
   else bif !decide (k = (3 : Int)) then
    bif !(u.toList == (ByteArray.mk #[]).toList) then
     some true
    else bif !decide (k = (1 : Int)) then
     some (!(t.toList == (ByteArray.mk #[]).toList))
    else some false
   else bif !decide (k = (1 : Int)) then
    some (!(t.toList == (ByteArray.mk #[]).toList))
   else some false : ah (Bool)) = some false := by
  rw [mh a (by omega), hd, af];simp only [bK, az];rw [Mr, hb, af];simp only [bK, az, aEm];by_cases h3 : k = 3
  · subst h3
    rw [ht (by omega)]
    rfl
  · rw [hu h3]
    by_cases h1 : k = 1
    · subst h1; rfl
    · rw [ht h1, aD h3, aD h1]; rfl
theorem avh (U:aa UInt8):(ByteArray.empty++BA U)=BA U:=by
 show BA []++BA U=BA U;rw [iX,dN]
theorem aoe:ByteArray.empty.size=0:=rfl
theorem aAP {U:aa UInt8} (hU:U.length<=20000):n_ ([],((1:Int),dR,BA U,ByteArray.empty))=some ((dk1 U 0,true),()):=by
 show sD BIG _=_;rw [Aa];refine (congrArg (fun o=>Option.bind o _) (JR (a:=[]) (k:=1) (b:=dR) (t:=BA U) (u:=ByteArray.empty) (by simp) WR (by rfl) (fun _=>Rw) (fun h=>absurd rfl h))).trans ?_;simp only [af,az,vX [] dR (by simp),aod,show ¬((0:Int)<=-1) from by omega,decide_true,decide_false,au,bE,aoe,avh,show 0+U.length<=4611686018427387904 from by omega,wS [] (dR,BA U,0) (by simp),List.filter_nil,dN,kY];rw [mh _ (by simp),AY hU (by omega) (by omega)];rfl
theorem acU (T U:aa UInt8) (k j:Int):(dk1 T k).filter (pP (dR,BA U,j))++[(dR,BA U,j)]++(dk1 T k).filter (pQ (dR,BA U,j))=dk1 U j:=by
 have h1:pP (dR,BA U,j) (dR,BA T,k)=false:=by
  show Op.bytesLess dR.toList dR.toList=false;rw [yM];rfl
 have h2:pQ (dR,BA U,j) (dR,BA T,k)=false:=by
  show (!(Op.bytesLess dR.toList dR.toList || dR.toList == dR.toList))=false;rw [yM];rfl
 simp only [CZ,h1,h2,List.filter_nil,eQ,if_false,dN,kY]
theorem aAQ {T U:aa UInt8} {k:Int} (h0:0<=k) (hk:k<=T.length) (hU:(T++U).length<=20000):n_ (dk1 T k,((1:Int),dR,BA U,ByteArray.empty))=some ((dk1 (T++U) k,true),()):=by
 have hU':=hU;rw [bq] at hU';show sD BIG _=_;rw [Aa];refine (congrArg (fun o=>Option.bind o _) (JR (a:=dk1 T k) (k:=1) (b:=dR) (t:=BA U) (u:=ByteArray.empty) (by simp) (AY (by omega) h0 hk) (by rfl) (fun _=>Rw) (fun h=>absurd rfl h))).trans ?_;have hb:∀{B:Type} {f:Nat->ah B},bnd (dk1 T k).length 0 f=f 0:=fun {B f}=>dO (by omega) (by simp)
 have hg:(dk1 T k)[0]?=some (dR,BA T,k):=rfl;simp only [af,az,vX (dk1 T k) dR (by simp),aCx,Ba,decide_true,au,hb,hg,bE,iX,show T.length+U.length<=4611686018427387904 from by omega,wS (dk1 T k) (dR,BA (T++U),k) (by simp),acU];rw [mh _ (by simp),AY hU h0 (by rw [bq];omega)];rfl
theorem axe {T:aa UInt8} {k:Int} (h0:0<=k) (hk:k<=T.length) (hT:T.length<=20000):n_ (dk1 T k,((2:Int),dR,ByteArray.empty,ByteArray.empty))=some ((dk1 T (T.length:Int),true),()):=by
 show sD BIG _=_;rw [Aa];refine (congrArg (fun o=>Option.bind o _) (JR (a:=dk1 T k) (k:=2) (b:=dR) (t:=ByteArray.empty) (u:=ByteArray.empty) (by simp) (AY hT h0 hk) (by rfl) (fun _=>Rw) (fun _=>Rw))).trans ?_;have hb:∀{B:Type} {f:Nat->ah B},bnd (dk1 T k).length 0 f=f 0:=fun {B f}=>dO (by omega) (by simp)
 have hg:(dk1 T k)[0]?=some (dR,BA T,k):=rfl;simp only [af,az,vX (dk1 T k) dR (by simp),aCx,Ba,decide_true,au,hb,hg,bE,show ¬((2:Int)=1) from by omega,Int.lt_irrefl,decide_false,wS (dk1 T k) (dR,BA T,(T.length:Int)) (by simp),acU];rw [mh _ (by simp),AY hT (by omega) (by omega)];rfl
theorem aAR (T U:aa UInt8) (k j:Int):(dk1 T k).filter (pP (dY,BA U,j))++[(dY,BA U,j)]++(dk1 T k).filter (pQ (dY,BA U,j))=dk2 T k U j:=by
 have h1:pP (dY,BA U,j) (dR,BA T,k)=true:=by
  show Op.bytesLess dR.toList dY.toList=true;rw [yM,uU];rfl
 have h2:pQ (dY,BA U,j) (dR,BA T,k)=false:=by
  show (!(Op.bytesLess dR.toList dY.toList || dR.toList == dY.toList))=false;rw [yM,uU];rfl
 simp only [CZ,h1,h2,List.filter_nil,eQ,if_false,if_true,nC,dN,kY]
theorem axf (T U V:aa UInt8) (k j l:Int):(dk2 T k U j).filter (pP (dY,BA V,l))++[(dY,BA V,l)]++(dk2 T k U j).filter (pQ (dY,BA V,l))=dk2 T k V l:=by
 have h1:pP (dY,BA V,l) (dR,BA T,k)=true:=by
  show Op.bytesLess dR.toList dY.toList=true;rw [yM,uU];rfl
 have h2:pQ (dY,BA V,l) (dR,BA T,k)=false:=by
  show (!(Op.bytesLess dR.toList dY.toList || dR.toList == dY.toList))=false;rw [yM,uU];rfl
 have h3:pP (dY,BA V,l) (dY,BA U,j)=false:=by
  show Op.bytesLess dY.toList dY.toList=false;rw [uU];rfl
 have h4:pQ (dY,BA V,l) (dY,BA U,j)=false:=by
  show (!(Op.bytesLess dY.toList dY.toList || dY.toList == dY.toList))=false;rw [uU];rfl
 simp only [CZ,h1,h2,h3,h4,List.filter_nil,eQ,if_false,if_true,nC,dN,kY]
theorem aAS (T U:aa UInt8) (k j:Int):(dk2 T k U j).filter (fun y=>!(y.1.toList == dY.toList))=dk1 T k:=by
 have h1:(!(dR.toList == dY.toList))=true:=by rw [yM,uU];rfl
 have h2:(!(dY.toList == dY.toList))=false:=by rw [uU];rfl
 simp only [CZ,h1,h2,List.filter_nil,eQ,if_false,if_true]
theorem aAT {T U:aa UInt8} {k:Int} (h0:0<=k) (hk:k<=T.length) (hT:T.length<=20000) (hU:U.length<=20000):n_ (dk1 T k,((1:Int),dY,BA U,ByteArray.empty))=some ((dk2 T k U 0,true),()):=by
 show sD BIG _=_;rw [Aa];refine (congrArg (fun o=>Option.bind o _) (JR (a:=dk1 T k) (k:=1) (b:=dY) (t:=BA U) (u:=ByteArray.empty) (by simp) (AY hT h0 hk) (by rfl) (fun _=>Rw) (fun h=>absurd rfl h))).trans ?_;simp only [af,az,vX (dk1 T k) dY (by simp),ayW,show ¬((0:Int)<=-1) from by omega,decide_true,decide_false,au,bE,aoe,avh,show 0+U.length<=4611686018427387904 from by omega,wS (dk1 T k) (dY,BA U,0) (by simp),aAR];rw [mh _ (by simp),agJ hT h0 hk hU (by omega) (by omega)];rfl
theorem axg {T U:aa UInt8} {k j:Int} (h0:0<=k) (hk:k<=T.length) (hT:T.length<=20000) (hU:U.length<=20000) (j0:0<=j) (hj:j<=U.length):n_ (dk2 T k U j,((2:Int),dY,ByteArray.empty,ByteArray.empty))=some ((dk2 T k U (U.length:Int),true),()):=by
 show sD BIG _=_;rw [Aa];refine (congrArg (fun o=>Option.bind o _) (JR (a:=dk2 T k U j) (k:=2) (b:=dY) (t:=ByteArray.empty) (u:=ByteArray.empty) (by simp) (agJ hT h0 hk hU j0 hj) (by rfl) (fun _=>Rw) (fun _=>Rw))).trans ?_;have hb:∀{B:Type} {f:Nat->ah B},bnd (dk2 T k U j).length 1 f=f 1:=fun {B f}=>dO (by omega) (by simp)
 have hg:(dk2 T k U j)[1]?=some (dY,BA U,j):=rfl;simp only [af,az,vX (dk2 T k U j) dY (by simp),aCy,show ((0:Int)<=1) from by omega,decide_true,au,hb,hg,bE,show ¬((2:Int)=1) from by omega,show ¬((1:Int)<0) from by omega,decide_false,wS (dk2 T k U j) (dY,BA U,(U.length:Int)) (by simp),axf];rw [mh _ (by simp),agJ hT h0 hk hU (by omega) (by omega)];rfl
theorem aAU {T U:aa UInt8} {k:Int} (h0:0<=k) (hk:k<=T.length) (hT:T.length<=20000) (hU:U.length<=20000):n_ (dk2 T k U (U.length:Int),((3:Int),dY,ByteArray.empty,dR))=some ((dk1 U (U.length:Int),true),()):=by
 show sD BIG _=_;rw [Aa];refine (congrArg (fun o=>Option.bind o _) (JR (a:=dk2 T k U (U.length:Int)) (k:=3) (b:=dY) (t:=ByteArray.empty) (u:=dR) (by simp) (agJ hT h0 hk hU (by omega) (by omega)) (by rfl) (fun h=>absurd rfl h) (fun _=>Rw))).trans ?_;have hb:∀{B:Type} {f:Nat->ah B},bnd (dk2 T k U (U.length:Int)).length 1 f=f 1:=fun {B f}=>dO (by omega) (by simp)
 have hg:(dk2 T k U (U.length:Int))[1]?=some (dY,BA U,(U.length:Int)):=rfl;have hn:(dR.toList == dY.toList)=false:=by rw [yM,uU];rfl
 have hs:aS (dR.size:Int) 1 8=true:=by rfl
 simp only [af,az,vX (dk2 T k U (U.length:Int)) dY (by simp),aCy,show ((0:Int)<=1) from by omega,decide_true,au,hb,hg,bE,show ¬((3:Int)=1) from by omega,show ¬((3:Int)=2) from by omega,show ¬((1:Int)<0) from by omega,Int.lt_irrefl,decide_false,hn,Mr,hs,bK,
  agp (dk2 T k U (U.length:Int)) dY (by simp),aAS,wS (dk1 T k) (dR,BA U,(U.length:Int)) (by simp),acU]
 rw [mh _ (by simp),AY hU (by omega) (by omega)];rfl
inductive DoS:List Fl->List Ra->List Fl->Prop
 | nil (a:List Fl):DoS a [] a
 | cons {a b c:List Fl} {x:Ra} {l:List Ra}:n_ (a,x)=some ((b,true),())->DoS b l c->DoS a (x::l) c
theorem Hf {a c:aa Fl} {l:aa Ra} (h:DoS a l c) (ha:a.length<=1000) (hl:l.length<=1000):wN (a,l)=some ((c,(l.length:Int)),()):=by
 have hm:maxLen=9223372036854775807:=by decide
 show Qo BIG _=_;rw [at0,ak (by first|omega | (simp only [bB];omega)),au];refine fK (x:=(([]:aa Fl),[]++a,(0:Int))) (P:=fun o=>o=some ((c,(l.length:Int)),())) (fun (s:aa Fl × aa Fl × Int)=>∃i:Nat,s.2.2=(i:Int)/\i<=l.length/\DoS s.2.1 (l.drop i) c) (fun s=>l.length-s.2.2.toNat)
  (fun _ (b:(aa Fl × aa Fl) ⊕ (aa Fl × Int))=>∃z,b = .inl (z,c)) (by simp [BIG];omega) ⟨0,rfl,by omega,by simpa using h⟩ (fun self s hx hs => ?_) (fun b hb=>by obtain ⟨z,rfl⟩:=hb;rfl)
 obtain ⟨z,d,jj⟩:=s;obtain ⟨i,k1,k2,k3⟩:=hx;simp only at k1 k2 k3 hs ⊢;subst k1;by_cases hi:i<l.length
 ·rw [BX hi] at k3;cases k3 with
  | cons e1 e2=>
   simp only [show ((i:Int)<(l.length:Int)) from by omega,decide_true,au];rw [aJ hi,aZ hi,af,e1,af];simp only [bK,az];rw [dK (by omega)];exact hs _ ⟨i+1,rfl,hi,e2⟩ (by simp;omega)
 ·rw [List.drop_eq_nil_of_le (by omega)] at k3;cases k3;simp only [show ¬((i:Int)<(l.length:Int)) from by omega,decide_false,az];exact ⟨_,rfl,z,rfl⟩
def uV (n:Int) (rs:aa Rc):aa Fl:=if rs.length=0 then [] else dk1 (eG n rs) ((eG n rs).length:Int)
theorem WT (n:Int) (rs:aa Rc) (r:Rc):uV n (rs++[r])=dk1 (eG n rs++gQ n r) ((eG n rs++gQ n r).length:Int):=by
 unfold uV;rw [if_neg (by rw [bq,bA];omega),sI]
theorem Hg (n:Int) (rs:aa Rc):(rs=[]/\uV n rs=[])\/(rs≠[]/\uV n rs=dk1 (eG n rs) ((eG n rs).length:Int)):=by
 unfold uV;cases rs with
 | nil=>exact .inl ⟨rfl,rfl⟩
 | cons x l=>exact .inr ⟨by simp,by rw [if_neg (by simp)]⟩
theorem Tf (n:Int) (rs:aa Rc):(uV n rs).length<=1:=by
 rcases Hg n rs with ⟨_,h⟩|⟨_,h⟩<;>rw [h]<;>simp
theorem avi (n:Int) (rs:aa Rc):∃b,JP (uV n rs) dR=(BA (eG n rs),b):=by
 rcases Hg n rs with ⟨rfl,h⟩|⟨_,h⟩<;>rw [h]
 ·exact ⟨false,WS _⟩
 ·exact ⟨true,abt _ _⟩
def lgA (U:aa UInt8):aa Ra:=[((1:Int),dR,BA U,ByteArray.empty),((2:Int),dR,ByteArray.empty,ByteArray.empty)]
theorem avj {n:Int} {r:Rc} {t:aa UInt8} (h:jv n r=some t):laR n r=(lgA (gQ n r),true):=by
 unfold laR;rw [h];simp only [(Rv h).1,txR];rfl
theorem aof {n:Int} {rs:aa Rc} {r:Rc} (hl:(eG n rs++gQ n r).length<=20000):n_ (uV n rs,((1:Int),dR,BA (gQ n r),ByteArray.empty))=some ((dk1 (eG n rs++gQ n r) ((eG n rs).length:Int),true),()):=by
 rcases Hg n rs with ⟨rfl,h⟩|⟨_,h⟩<;>rw [h]
 ·exact aAP (by rw [show eG n []=[] from rfl,dN] at hl;exact hl)
 ·exact aAQ (by omega) (by omega) hl
theorem aj3 {n:Int} {rs:aa Rc} {r:Rc} (hl:(eG n rs++gQ n r).length<=20000):DoS (uV n rs) (lgA (gQ n r)) (uV n (rs++[r])):=by
 rw [WT];have:=hl;rw [bq] at this;exact .cons (aof hl) (.cons (axe (by omega) (by rw [bq];omega) hl) (.nil _))
theorem avk (m:Int):uP ([],[m])=some (([],true),()):=by
 show AP BIG _=_;rw [U9,mh _ (by simp),WR,af];simp only [bK,az];refine fK (x:=(([]:aa Fl),(0:Int))) (P:=fun o=>o=some (([],true),())) (fun (s:aa Fl × Int)=>s=([],0)) (fun s=>0) (fun _ (b:aa Fl)=>b=[]) (by simp [BIG]) rfl (fun self s hx hs => ?_) (fun b hb=>by subst hb;rfl);subst hx;exact ⟨[],rfl,rfl⟩
theorem WU {S:aa UInt8} {k m:Int} (hS:S.length<=20000) (h0:0<=k) (hk:k<=S.length) (hm0:0<=m):∃j:Nat,j<=S.length/\k<=j/\((j:Int)=k\/(j:Int)=m\/(j=S.length/\(S.length:Int)<=m))/\(m<=j\/j=S.length)/\uP (dk1 S k,[m])=some ((dk1 (S.take j) ((S.take j).length:Int),true),()):=by
 have hm:maxLen=9223372036854775807:=by decide
 have hx:∃j:Nat,j<=S.length/\k<=j/\((j:Int)=k\/(j:Int)=m\/(j=S.length/\(S.length:Int)<=m))/\(m<=j\/j=S.length)/\(Option.bind (bif decide ((S.length:Int)<m) then
    some (S.length:Int)
    else some m:ah (Int)) fun x8=>
   (bif decide (x8<k) then
    some k
    else some x8:ah (Int)))=some (j:Int):=by
  by_cases h1:(S.length:Int)<m
  ·rw [ak h1,au,af,aD (by omega),az];exact ⟨S.length,by omega,by omega,.inr (.inr ⟨rfl,by omega⟩),.inr rfl,rfl⟩
  ·rw [aD h1,az,af];by_cases h2:m<k
   ·rw [ak h2,au];exact ⟨k.toNat,by omega,by omega,.inl (by omega),.inl (by omega),by rw [gV h0]⟩
   ·rw [aD h2,az];exact ⟨m.toNat,by omega,by omega,.inr (.inl (by omega)),.inl (by omega),by rw [gV hm0]⟩
 obtain ⟨j,j1,j2,j3,j4,j5⟩:=hx;refine ⟨j,j1,j2,j3,j4,?_⟩;have e1:(BA S).extract 0 j=BA (S.take j):=by rw [Q6];simp
 have e2:((S.take j).length:Int)=(j:Int):=by rw [eU];omega
 show AP BIG _=_;rw [U9,mh _ (by simp),AY hS h0 hk,af];simp only [bK,az];refine fK (x:=(([]:aa Fl),(0:Int))) (P:=fun o=>o=some ((dk1 (S.take j) ((S.take j).length:Int),true),())) (fun (s:aa Fl × Int)=>s=([],0)\/s=(dk1 (S.take j) ((S.take j).length:Int),1)) (fun s=>1-s.2.toNat) (fun _ (b:aa Fl)=>b=dk1 (S.take j) ((S.take j).length:Int)) (by simp [BIG]) (.inl rfl) (fun self s hx hs => ?_) (fun b hb=>by subst hb;rfl);rcases hx with rfl|rfl
 ·have hb:∀{B:Type} {f:Nat->ah B},bnd (dk1 S k).length 0 f=f 0:=fun {B f}=>dO (by omega) (by simp)
  have uW:∀{B:Type} {f:Nat->ah B},bnd [m].length 0 f=f 0:=fun {B f}=>dO (by omega) (by simp)
  have hg:(dk1 S k)[0]?=some (dR,BA S,k):=rfl;have hg2:[m][0]?=some m:=rfl;have hj5:∀{C:Type} (K:Int->ah C),(Option.bind (bif decide ((S.length:Int)<m) then some (S.length:Int) else some m:ah (Int)) fun x8=>Option.bind (bif decide (x8<k) then some k else some x8:ah (Int)) K)=K (j:Int):=by
   intro C K;have:=congrArg (fun o=>Option.bind o K) j5;simp only [Option.bind_assoc,af] at this;exact this
  have hl1:decide ((0:Int)<((dk1 S k).length:Int))=true:=ak (by simp);have hl2:decide ((0:Int)<(([m]:aa Int).length:Int))=true:=ak (by simp);have hw:IntKind.wrap .i64 ((0:Int)+1)=1:=rfl;have rC:IntKind.wrap .i64 (1:Int)=1:=rfl;simp only [hl1,hl2,au,hb,hg,uW,hg2,af,bE,hj5,eH,e1,hw,rC];rw [ak (by omega),au,ak (by simp),au,af];refine hs _ (.inr ?_) (by simp);rw [e2];rfl
 ·refine ⟨_,?_,rfl⟩;have hl1:decide ((1:Int)<((dk1 S k).length:Int))=false:=aD (by simp);simp only [hl1,az]
theorem aCz {S:aa UInt8} (hS:S.length<=20000):DC (dk1 S (S.length:Int))=some (true,()):=by
 have hm:maxLen=9223372036854775807:=by decide
 show Mg BIG _=_;rw [aqV,mh _ (by simp),AY hS (by omega) (by omega),af];simp only [bK,az];rw [BK (dk1 S (S.length:Int)) (by simp) (fun y=>decide (y.2.2<(y.2.1.size:Int))) false (fun self i y hy => ?_) (fun self=>by simp)]
 ·have:(dk1 S (S.length:Int)).any (fun y=>decide (y.2.2<(y.2.1.size:Int)))=false:=by
   simp [bE]
  rw [this];rfl
 ·have hi:=(bn hy).1;have hi0:i=0:=by simp at hi;omega
  simp only [show ((i:Int)<((dk1 S (S.length:Int)).length:Int)) from by omega,decide_true,au];rw [aJ hi,hy,af,aJ hi,hy,af,dK (by omega)];cases decide (y.2.2<(y.2.1.size:Int))<;>rfl
def mdA (T:aa UInt8):aa Ra:=[((1:Int),dY,BA T,ByteArray.empty),((2:Int),dY,ByteArray.empty,ByteArray.empty),((3:Int),dY,ByteArray.empty,dR)]
theorem FC {n:Int} {F:aa UInt8} {k:Int} (hF:F.length<=20000) (h0:0<=k) (hk:k<=F.length) {rs:aa Rc} {e:Nat} (hr:rdR n F=(rs,(e:Int))) (he:e<=F.length):mg (dk1 F k,n)=some ((if e=F.length then [] else mdA (F.take e),true),()):=by
 have e1:(BA F).extract 0 e=BA (F.take e):=by rw [Q6];simp
 show AO BIG _=_;rw [U4,afp _ (by simp),AY hF h0 hk,af];simp only [bK,az];rw [afq _ _ (by simp),af];rw [show JP (dk1 F k) (ByteArray.mk #[108,111,103])=(BA F,true) from abt F k];simp only;have FF:kQ (n,BA F)=some ((rs,(e:Int)),()):=by rw [<-hr];exact AR n F
 rw [FF,af,Re _ _ (by simp),show fI (dk1 F k) (ByteArray.mk #[108,111,103,43]) = -1 from ayW F k,af];simp only [show ¬((0:Int)<=-1) from by omega,decide_false,az,af,bE,eH,e1];by_cases h:e=F.length
 ·rw [ak (by omega),au,if_pos h]
 ·rw [aD (by omega),az,ak (by omega),au,ak (by simp),au,if_neg h];rfl
theorem FD (n:Int):mg ([],n)=some (([],true),()):=by
 have hr:rdR n []=([],(0:Int)):=by
  have:=Te (n:=n) (rs:=[]) (fun r hr=>by cases hr) (by simp [eG]);simpa [eG] using this
 show AO BIG _=_;rw [U4,afp _ (by simp),WR,af];simp only [bK,az];rw [afq _ _ (by simp),af,WS];simp only;have FF:kQ (n,BA [])=some (([],(0:Int)),()):=by rw [<-hr];exact AR n []
 rw [FF,af,Re _ _ (by simp),aod,af];simp only [show ¬((0:Int)<=-1) from by omega,decide_false,az,af,bE];rfl
theorem aAV {F T:aa UInt8} (hF:F.length<=20000) (hT:T.length<=20000):DoS (dk1 F (F.length:Int)) (mdA T) (dk1 T (T.length:Int)):=
 .cons (aAT (by omega) (by omega) hF hT) (.cons (axg (by omega) (by omega) hF hT (by omega) (by omega)) (.cons (aAU (by omega) (by omega) hF hT) (.nil _)))
theorem avl (T X:aa UInt8) (hl:(T++X).length<=100000):BH (BA T,BA (T++X))=some (true,()):=by
 rw [bq] at hl;show QV BIG _=_;rw [auj];simp only [bE,eH];rw [ak (by rw [bq];omega),au,ak (by rw [bq];omega),au,Q6];simp
section
variable {n:Int} {rs:aa Rc} {r:Rc} (hJ:JrOk n (rs++[r])) (hl:(eG n (rs++[r])).length<=20000)
include hJ hl
theorem aAW {w q:Int} (hw:0<=w/\w<=2) (hq:0<=q/\q<100):∃C,DD (uV n rs,lgA (gQ n r),w,[((eG n rs).length:Int)+q])=some ((C,true),()) /\
  ((C=[]/\rs=[])\/∃k:Nat,k<=(gQ n r).length/\C=dk1 (eG n rs++(gQ n r).take k) ((eG n rs++(gQ n r).take k).length:Int)):=by
 have hm:maxLen=9223372036854775807:=by decide
 rw [sI] at hl;have Od:=hl;rw [bq] at Od;generalize hT:eG n rs=T at *
 generalize hU:gQ n r=U at *
 have hd1:=Tf n rs;have fe:∀(w:Nat) (a c:aa Fl),w<=2->DoS a ((lgA U).take w) c->a.length<=1->∀m:Int,DD (a,lgA U,(w:Int),[m])=Option.bind (uP (c,[m])) fun r2=>some (r2.1,()):=by
  intro w a c hw hD ha m;have bJ:(lgA U).length=2:=rfl;show Mh BIG _=_;rw [aqX,dz,show aS (w:Int) 0 ((lgA U).length:Int)=true from aH.2 (by rw [bJ];omega),af];simp only [bK,az,eH,DY,FY];rw [ak (by omega),au,ak (by rw [bJ];omega),au,Hf hD (by omega) (by rw [eU];omega),af];simp only;rw [aD (by rw [eU,bJ];omega),az]
 have rC:w=((0:Nat):Int)\/w=((1:Nat):Int)\/w=((2:Nat):Int):=by omega
 have akw:=aof (n:=n) (rs:=rs) (r:=r) (by rw [hT,hU];exact hl);have hdo:=aj3 (n:=n) (rs:=rs) (r:=r) (by rw [hT,hU];exact hl);rw [WT] at hdo;rw [hT,hU] at akw hdo;rcases rC with rfl|rfl|rfl
 ·rw [fe 0 (uV n rs) (uV n rs) (by omega) (.nil _) hd1];rcases Hg n rs with ⟨h0,h⟩|⟨_,h⟩
  ·rw [h,avk];exact ⟨[],rfl,.inl ⟨rfl,h0⟩⟩
  ·rw [hT] at h;obtain ⟨j,j1,j2,j3,j4,j5⟩:=WU (S:=T) (k:=(T.length:Int)) (m:=(T.length:Int)+q) (by omega) (by omega) (by omega) (by omega);have:j=T.length:=by omega
   subst this;rw [h,j5];refine ⟨_,rfl,.inr ⟨0,by omega,?_⟩⟩;rw [CS (dV _),A7,kY]
 ·rw [fe 1 (uV n rs) _ (by omega) (.cons akw (.nil _)) hd1];obtain ⟨j,j1,j2,j3,j4,j5⟩:=WU (S:=T++U) (k:=(T.length:Int)) (m:=(T.length:Int)+q) hl (by omega) (by rw [bq];omega) (by omega);rw [j5];rw [bq] at j1;refine ⟨_,rfl,.inr ⟨j-T.length,by omega,?_⟩⟩;rw [List.take_append,CS (by omega)]
 ·rw [fe 2 (uV n rs) _ (by omega) hdo hd1];obtain ⟨j,j1,j2,j3,j4,j5⟩:=WU (S:=T++U) (k:=((T++U).length:Int)) (m:=(T.length:Int)+q) hl (by omega) (by omega) (by omega);have:j=(T++U).length:=by omega
  subst this;rw [j5];refine ⟨_,rfl,.inr ⟨U.length,by omega,?_⟩⟩;rw [CS (dV _),CS (dV _)]
theorem axh {C:aa Fl} (hC:(C=[]/\rs=[])\/∃k:Nat,k<=(gQ n r).length/\C=dk1 (eG n rs++(gQ n r).take k) ((eG n rs++(gQ n r).take k).length:Int)) :
  ∃(M:aa Ra) (f:aa Fl),mg (C,n)=some ((M,true),())/\DoS C M f/\C.length<=1/\f.length<=1/\M.length<=3/\mg (f,n)=some (([],true),()) /\
   ∃(V X:aa UInt8) (b:Bool) (rs':aa Rc),JP f dR=(BA V,b)/\rdR n V=(rs',(V.length:Int))/\(rs'.length=rs.length\/rs'.length=rs.length+1)/\eG n (rs++[r])=V++X:=by
 have hJ1:JrOk n rs:=fun x hx=>hJ x (jc _ hx)
 have hl2:=hl;rw [sI] at hl2;have hl3:=hl2;rw [bq] at hl3;have Ao:=Te hJ hl;have kg:=Te hJ1 (by omega);rcases hC with ⟨rfl,h0⟩|⟨k,hk,rfl⟩
 ·subst h0;exact ⟨[],[],FD n,.nil _,by simp,by simp,by simp,FD n,[],eG n ([]++[r]),false,[],WS _,kg,.inl rfl,rfl⟩
 ·by_cases mR:k=(gQ n r).length
  ·subst mR;rw [CS (dV _),<-sI];have hmd:=FC (k:=((eG n (rs++[r])).length:Int)) hl (by omega) (by omega) Ao (dV _);rw [if_pos rfl] at hmd;exact ⟨[],_,hmd,.nil _,by simp,by simp,by simp,hmd,eG n (rs++[r]),[],true,rs++[r],abt _ _,Ao,.inr (by simp),by simp⟩
  ·have axD:=aAO hJ (k:=k) (by omega) hl;have RP:(eG n rs++(gQ n r).take k).length<=20000:=by rw [bq,eU];omega
   have hmd:=FC (k:=((eG n rs++(gQ n r).take k).length:Int)) RP (by omega) (by omega) axD (by rw [bq];omega);have arX:=FC (k:=((eG n rs).length:Int)) (F:=eG n rs) (by omega) (by omega) (by omega) kg (dV _);rw [if_pos rfl] at arX;have fe:eG n (rs++[r])=eG n rs++gQ n r:=sI n r rs;by_cases h0:k=0
   ·subst h0;rw [A7,kY];exact ⟨[],_,arX,.nil _,by simp,by simp,by simp,arX,eG n rs,gQ n r,true,rs,abt _ _,kg,.inl rfl,fe⟩
   ·rw [if_neg (by rw [bq,eU];omega),C8] at hmd;exact ⟨mdA (eG n rs),_,hmd,aAV RP (by omega),by simp,by simp,by simp [mdA],arX,eG n rs,gQ n r,true,rs,abt _ _,kg,.inl rfl,fe⟩
end
theorem al4 (a:aa Int) (h:a.length<=maxLen):aff a=some (true,()):=by
 have hm:maxLen=9223372036854775807:=by decide
 show QW BIG _=_;rw [aum,aCa,af];by_cases ha:a.length<=1048576;case neg=>rw [ak (by omega)];rfl
 rw [aD (by omega),az];obtain ⟨c,k0,hc⟩:=afk a ha;obtain ⟨n,K,hd,ss,g,k,hr,own,c1,k1,o1,hn,hK,hRh,hRo,hP,hF,hJ⟩:=al3 c hc a ha 0;rw [if_neg (by omega)] at k1;have e1:zZ a=some (((n:Int),(K:Int),hr),()):=by
  show zY BIG _=_;rw [acB,k0,af];simp only;rw [k1,af]
 obtain ⟨hl,hB⟩:=hRh;have bJ:=acT hJ;have hB':∀y,y∈hr->y.2.2.2.2.2.2.2.2.1.length<=1048576/\y.2.2.2.2.2.2.2.2.2.1.length<=1048576/\y.2.2.2.2.2.2.2.2.2.2.2.2.1.length<=1048576:=fun y hy=>by
  have:=hB y hy;exact ⟨by have:=this.1;omega,by have:=this.2.1;omega,by have:=this.2.2;omega⟩
 have azC:∀i,i<=hr.length->(eG (n:Int) (hr.take i)).length<=20000:=fun i hi=>by
  have:=acT (n:=(n:Int)) (rs:=hr.take i) fun x hx=>hJ x (List.mem_of_mem_take hx)
  rw [eU] at this;omega
 rw [e1,af];simp only;refine fK (x:=(([]:aa Fl),(0:Int))) (P:=fun o=>o=some (true,())) (fun (s:aa Fl × Int)=>∃i:Nat,s.2=(i:Int)/\(i=0\/i+1<=hr.length)/\s.1=uV (n:Int) (hr.take i)) (fun s=>hr.length-s.2.toNat)
  (fun _ (b:aa Fl)=>b=uV (n:Int) (hr.take (hr.length-1))) (by simp [BIG];omega) ⟨0,rfl,.inl rfl,rfl⟩ (fun self s hx hs => ?_) (fun b hb => ?_)
 ·obtain ⟨d,jj⟩:=s;obtain ⟨i,q1,q2,q3⟩:=hx;simp only at q1 q3 hs ⊢;subst q1 q3;have aJg:i<=40:=by omega
  rw [dK (by omega)];by_cases hi:i+1<hr.length
  ·have hy:=aZ (show i<hr.length by omega);generalize zm:hr[i]=y at hy;have hym:=iA hy;obtain ⟨b1,b2,b3⟩:=hB' y hym;obtain ⟨t,ht⟩:=hJ y hym;have JZ:hr.take (i+1)=hr.take i++[y]:=by rw [List.take_add_one,hy];rfl
   have hp:=azC (i+1) (by omega);rw [JZ,sI] at hp;rw [ak (by omega),au,aJ (by omega),hy,af,arf _ _ _ b1 b2 b3,af,avj ht];simp only;rw [Hf (aj3 hp) (by have:=Tf (n:Int) (hr.take i);omega) (by simp [lgA]),af];exact hs _ ⟨i+1,rfl,.inr (by omega),by rw [JZ]⟩ (by simp;omega)
  ·rw [aD (by omega),az];refine ⟨_,rfl,?_⟩;rcases q2 with q2|q2
   ·subst q2;rw [show hr.length-1=0 by omega]
   ·rw [show hr.length-1=i by omega]
 ·subst hb;rcases List.eq_nil_or_concat hr with axG|⟨rs,r,Vj⟩
  ·subst axG;have e2:uV (n:Int) (([]:aa Rc).take (([]:aa Rc).length-1))=[]:=rfl;rw [ak (by simp),au,e2,FD,af];simp only [au];rw [ak (by omega)];rfl
  ·rw [List.concat_eq_append] at Vj;subst Vj;have hrl:(rs++[r]).length=rs.length+1:=by simp
   have etk:(rs++[r]).take ((rs++[r]).length-1)=rs:=by rw [hrl,Nat.add_sub_cancel,C8]
   have Am:(rs++[r])[rs.length]?=some r:=by simp
   have hS:=azC (rs++[r]).length (dV _);rw [CS (dV _)] at hS;obtain ⟨b1,b2,b3⟩:=hB' r (by simp);obtain ⟨t,ht⟩:=hJ r (by simp);have hS':=hS;rw [sI] at hS';have hw:IntKind.wrap .i64 (((rs++[r]).length:Int)-1)=(rs.length:Int):=by rw [hrl,wr (by omega) (by omega)];omega
   have hd1:=Tf (n:Int) rs;have hd2:=Tf (n:Int) (rs++[r]);obtain ⟨f1,hf1⟩:=avi (n:Int) (rs++[r]);obtain ⟨f2,hf2⟩:=avi (n:Int) rs;have aEw:DC (uV (n:Int) (rs++[r]))=some (true,()):=by rw [WT];exact aCz hS'
   have FF:kQ ((n:Int),BA (eG (n:Int) (rs++[r])))=some ((rs++[r],((eG (n:Int) (rs++[r])).length:Int)),()):=by rw [<-Te hJ hS];exact AR _ _
   obtain ⟨p,k2,hp,NZ⟩:=agm a ha;have g0:=aZ (show 0<p.length by omega);have g1:=aZ (show 1<p.length by omega);have p0:=NZ _ (u6 (show 0<p.length by omega));have p1:=NZ _ (u6 (show 1<p.length by omega));generalize p[0]=x0 at g0 p0;generalize p[1]=x1 at g1 p1;have m0:Int.tmod x0 3=x0 % 3:=abO p0.1;have m1:Int.tmod x1 60=x1 % 60:=abO p1.1;have hb0:∀{B:Type} {f:Nat->ah B},bnd p.length 0 f=f 0:=fun {B f}=>dO (by omega) (by omega)
   have JX:∀{B:Type} {f:Nat->ah B},bnd p.length 1 f=f 1:=fun {B f}=>dO (by omega) (by omega)
   obtain ⟨C,hC,hC'⟩:=aAW hJ hS (w:=x0 % 3) (q:=x1 % 60) (by omega) (by omega);obtain ⟨M,f,z1,z2,z3,z4,z5,z6,V,X,b,rs',z7,z8,z9,z10⟩:=axh hJ hS hC';have aHc:kQ ((n:Int),BA V)=some ((rs',(V.length:Int)),()):=by rw [<-z8];exact AR _ _
   have aJh:(eG (n:Int) rs).length<=20000:=by rw [bq] at hS';omega
   have hbg:BH (BA V,BA (eG (n:Int) (rs++[r])))=some (true,()):=by
    rw [z10] at hS ⊢;exact avl V X (by omega)
   rw [etk,aD (by rw [hrl];omega),az,hw,aJ (by rw [hrl];omega),Am,af,arh _ _ _ b1 b2 b3,af,avj ht];simp only;rw [Hf (aj3 hS') (by omega) (by simp [lgA]),af];simp only;rw [Rf _ _ (by omega),show JP (uV (n:Int) (rs++[r])) (ByteArray.mk #[108,111,103])=_ from hf1,af];simp only;rw [FF,af];simp only [bK,az,decide_true,bE];rw [aEw,af];simp only [bK,af,az];rw [k2,af,Rf _ _ (by omega),show JP (uV (n:Int) rs) (ByteArray.mk #[108,111,103])=_ from hf2,af];simp only [hb0,JX,g0,g1,af,show ¬((3:Int)=0) from by omega,show ¬((60:Int)=0) from by omega,decide_false,az,m0,m1,bE];rw [wr (n:=((eG (n:Int) rs).length:Int)+x1 % 60) (by omega) (by omega),hC,af];simp only;rw [z1,af];simp only;rw [Hf z2 (by omega) (by omega),af];simp only;rw [z6,af,Rf _ _ (by omega),show JP f (ByteArray.mk #[108,111,103])=_ from z7,af];simp only;rw [aHc,af];simp only [au,decide_true,bE,bB];rw [ak (by simp),au,hbg];rcases z9 with z9|z9
   ·rw [aD (by rw [hrl];omega),az,ak (by omega),au];rfl
   ·rw [ak (by rw [hrl];omega),au];rfl
end Go.Fw
