/- What the given functions come to. No conditions. -/
import Derived.Test.YtbdciplhpomakaaGreatM1
set_option linter.unusedVariables false
set_option linter.unusedSimpArgs false
set_option linter.unusedSectionVars false
namespace Go.Fw
structure Inv (n:Nat) (M:List aD) (e:Ed) (k:Int):Prop where
 gr:iq n (gE M)=true
 lv:∀x,x∈M->0<=x.2.2.1/\x.2.2.1<=4
 nc:NoCyc (aN M 0)
 dis:¬Con (aN M 0) e.1 e.2
 hi:∀x,x∈M->x.2.2.2=false->k<x.2.2.1->Con (aN M x.2.2.1) x.1 x.2.1
 lo:∀x,x∈M->x.2.2.2=false->x.2.2.1<=k->Con (aN M x.2.2.1++[e]) x.1 x.2.1
 sz:∀j:Nat,1<=j->j<=4->∀f,f∈aN M j->cz n (aN M j) f.1<=n / 2 ^ j
 sz':∀j:Nat,(j:Int)<=k->cz n (aN M j++[e]) e.1<=n / 2 ^ j
theorem Inv.wok {n:Nat} {M:List aD} {e:Ed} (h:Inv n M e (-1)):WOk n M:=
 ⟨h.gr,h.lv,h.nc,fun x hx ht=>by
  have hr:=eB ((ji h.gr).1 (x.1,x.2.1) (List.mem_map.2 ⟨x,hx,rfl⟩))
  exact (iQ h.gr _ ⟨hr.1,hr.2.1⟩ ⟨hr.2.2.1,hr.2.2.2.1⟩).2 (h.hi x hx ht (by have:=(h.lv x hx).1;omega)),h.sz⟩
section
variable {n:Nat} {M:List aD} {e:Ed} {k:Nat} (hI:Inv n M e (k:Int)) (k3:k<=3) (ha:0<=e.1/\e.1<n) (hb:0<=e.2/\e.2<n)
 {r o:Int} (hro:(r=e.1/\o=e.2)\/(r=e.2/\o=e.1)) (hsm:cz n (aN M k) r<=cz n (aN M k) o)
 {s:Int->Bool} (hs:∀x:Int,0<=x/\x<n->(s x=true↔Con (aN M k) r x))
include hI
theorem Inv.rg {x:aD} (hx:x∈M):(0<=x.1/\x.1<n)/\(0<=x.2.1/\x.2.1<n):=by
 have hr:=eB ((ji hI.gr).1 (x.1,x.2.1) (List.mem_map.2 ⟨x,hx,rfl⟩));simp only at hr;omega
theorem Inv.rgE {j:Int} {f:Ed} (hf:f∈aN M j):(0<=f.1/\f.1<n)/\(0<=f.2/\f.2<n):=by
 obtain ⟨y,h1,_,_,rfl⟩:=fD.1 hf;exact hI.rg h1
theorem Inv.ein (j:Int):kR n (aN M j):=jG hI.gr j
include ha hb
theorem Inv.eine (j:Int):kR n (aN M j++[e]):=fun f hf=>by
 rcases List.mem_append.1 hf with h|h
 ·exact hI.ein j f h
 ·rw [List.mem_singleton.1 h];exact ⟨ha.1,ha.2,hb.1,hb.2⟩
include hro
theorem Inv.dis' (j:Int) (hj:0<=j):¬Con (aN M j) r o:=by
 intro h;have h0:=h.mono (qF (L:=M) hj);rcases hro with ⟨rfl,rfl⟩|⟨rfl,rfl⟩
 ·exact hI.dis h0
 ·exact hI.dis h0.symm
include hsm
theorem Inv.half:cz n (aN M k) r<=n / 2 ^ (k+1):=by
 have hr:0<=r/\r<n:=by rcases hro with ⟨rfl,rfl⟩|⟨rfl,rfl⟩<;>assumption
 have ho:0<=o/\o<n:=by rcases hro with ⟨rfl,rfl⟩|⟨rfl,rfl⟩<;>assumption
 have hsub:∀{x y:Int},Con (aN M k) x y->Con (aN M k++[e]) x y:=fun h=>h.mono fun f hf=>List.mem_append_left _ hf
 have hre:Con (aN M k++[e]) e.1 e.2:=.of (List.mem_append_right _ (List.mem_singleton.2 rfl));have h1:Con (aN M k++[e]) e.1 r:=by
  rcases hro with ⟨rfl,rfl⟩|⟨rfl,rfl⟩
  ·exact .refl _
  ·exact hre
 have h2:Con (aN M k++[e]) e.1 o:=by
  rcases hro with ⟨rfl,rfl⟩|⟨rfl,rfl⟩
  ·exact hre
  ·exact .refl _
 have:=aqy (hI.ein k) (hI.eine ha hb k) hr ho ha (fun x hx=>h1.trans (hsub hx)) (fun x hx=>h2.trans (hsub hx)) (hI.dis' ha hb hro k (by omega));have h3:=hI.sz' k (by omega);rw [Nat.pow_succ,<-Nat.div_div_eq_div_mul];omega
end
def f1 (s:Int->Bool) (k:Int) (y:aD):aD:=if pM s k y=1 then kT k y else y
theorem wD {s:Int->Bool} {k:Int} {y:aD} (k3:k<=3) (c:y.2.2.2=true/\y.2.2.1=k/\s y.1=true):f1 s k y=(y.1,y.2.1,k+1,true):=by
 unfold f1 pM kT Zc;rw [if_pos c,if_pos rfl,if_neg (by omega),c.1]
theorem rC {s:Int->Bool} {k:Int} {y:aD} (c:¬(y.2.2.2=true/\y.2.2.1=k/\s y.1=true)):f1 s k y=y:=by
 unfold f1 pM;rw [if_neg c,if_neg (by omega)]
section
variable {M:List aD} {s:Int->Bool} {k:Int} (k3:k<=3)
include k3
theorem DU {j:Int} (hj:j≠k+1) {f:Ed}:f∈aN (M.map (f1 s k)) j↔f∈aN M j:=by
 rw [fD,fD];constructor
 ·rintro ⟨y',hy',ht,hl,he⟩;obtain ⟨y,hy,rfl⟩:=List.mem_map.1 hy';by_cases c:y.2.2.2=true/\y.2.2.1=k/\s y.1=true
  ·rw [wD k3 c] at ht hl he;simp only at ht hl he;exact ⟨y,hy,c.1,by omega,he⟩
  ·rw [rC c] at ht hl he;exact ⟨y,hy,ht,hl,he⟩
 ·rintro ⟨y,hy,ht,hl,he⟩;refine ⟨f1 s k y,List.mem_map.2 ⟨y,hy,rfl⟩,?_⟩;by_cases c:y.2.2.2=true/\y.2.2.1=k/\s y.1=true
  ·rw [wD k3 c];exact ⟨rfl,by simp only;omega,he⟩
  ·rw [rC c];exact ⟨ht,hl,he⟩
theorem DV {f:Ed}:f∈aN (M.map (f1 s k)) (k+1)↔f∈aN M (k+1)\/(f∈aN M k/\s f.1=true):=by
 rw [fD,fD,fD];constructor
 ·rintro ⟨y',hy',ht,hl,he⟩;obtain ⟨y,hy,rfl⟩:=List.mem_map.1 hy';by_cases c:y.2.2.2=true/\y.2.2.1=k/\s y.1=true
  ·rw [wD k3 c] at ht hl he;simp only at ht hl he;exact .inr ⟨⟨y,hy,c.1,by omega,he⟩,by rw [<-he];exact c.2.2⟩
  ·rw [rC c] at ht hl he;exact .inl ⟨y,hy,ht,hl,he⟩
 ·rintro (⟨y,hy,ht,hl,he⟩|⟨⟨y,hy,ht,hl,he⟩,hsf⟩)
  ·refine ⟨f1 s k y,List.mem_map.2 ⟨y,hy,rfl⟩,?_⟩;rw [rC (fun c=>by omega)];exact ⟨ht,hl,he⟩
  ·refine ⟨f1 s k y,List.mem_map.2 ⟨y,hy,rfl⟩,?_⟩;by_cases c:y.2.2.2=true/\y.2.2.1=k/\s y.1=true
   ·rw [wD k3 c];exact ⟨rfl,by simp only;omega,he⟩
   ·rw [rC c];refine ⟨ht,?_,he⟩;have:y.2.2.1≠k:=fun h=>c ⟨ht,h,by rw [<-he] at hsf;exact hsf⟩
    omega
theorem ak9 {j:Int} {f:Ed} (h:f∈aN M j):f∈aN (M.map (f1 s k)) j:=by
 by_cases hj:j=k+1
 ·subst hj;exact (DV k3).2 (.inl h)
 ·exact (DU k3 hj).2 h
theorem CR {y:aD} (ht:y.2.2.2=false):y∈M.map (f1 s k)↔y∈M:=by
 constructor
 ·intro hy';obtain ⟨y0,hy,rfl⟩:=List.mem_map.1 hy';by_cases c:y0.2.2.2=true/\y0.2.2.1=k/\s y0.1=true
  ·rw [wD k3 c] at ht;cases ht
  ·rw [rC c];exact hy
 ·intro hy;exact List.mem_map.2 ⟨y,hy,rC (fun c=>by rw [ht] at c;cases c.1)⟩
theorem anL (h:∀x,x∈M->0<=x.2.2.1/\x.2.2.1<=4) (k0:0<=k):∀x,x∈M.map (f1 s k)->0<=x.2.2.1/\x.2.2.1<=4:=by
 intro x hx;obtain ⟨y,hy,rfl⟩:=List.mem_map.1 hx;by_cases c:y.2.2.2=true/\y.2.2.1=k/\s y.1=true
 ·rw [wD k3 c];simp only;omega
 ·rw [rC c];exact h y hy
end
section
variable {n:Nat} {M:List aD} {e:Ed} {k:Nat} (hI:Inv n M e (k:Int)) (k3:(k:Int)<=3) (ha:0<=e.1/\e.1<n) (hb:0<=e.2/\e.2<n)
 {r o:Int} (hro:(r=e.1/\o=e.2)\/(r=e.2/\o=e.1)) (hsm:cz n (aN M k) r<=cz n (aN M k) o)
 {s:Int->Bool} (hs:∀x:Int,0<=x/\x<n->(s x=true↔Con (aN M k) r x))
include hI k3 ha hb hro hsm hs
theorem aah {x:Int} (h:Con (aN M k) r x):Con (aN (M.map (f1 s k)) ((k:Int)+1)) r x:=by
 have hr:0<=r/\r<n:=by rcases hro with ⟨rfl,rfl⟩|⟨rfl,rfl⟩<;>assumption
 induction h with
 | refl=>exact .refl _
 | fwd hc hm ih=>
  refine .fwd ih ((DV k3).2 (.inr ⟨hm,?_⟩));exact (hs _ (hI.rgE hm).1).2 hc
 | bwd hc hm ih=>
  refine .bwd ih ((DV k3).2 (.inr ⟨hm,?_⟩));exact (hs _ (hI.rgE hm).1).2 (.bwd hc hm)
theorem aqA {v x:Int} (hv:¬Con (aN M k) r v) (h:Con (aN (M.map (f1 s k)) ((k:Int)+1)) v x):Con (aN M ((k:Int)+1)) v x:=by
 have hsub:∀{x y:Int},Con (aN M ((k:Int)+1)) x y->Con (aN M k) x y:=fun h=>h.mono (qF (by omega))
 induction h with
 | refl=>exact .refl _
 | fwd hc hm ih=>
  rcases (DV k3).1 hm with hm|⟨hm,hsf⟩
  ·exact .fwd ih hm
  ·exfalso;exact hv (((hs _ (hI.rgE hm).1).1 hsf).trans (hsub ih).symm)
 | bwd hc hm ih=>
  rcases (DV k3).1 hm with hm|⟨hm,hsf⟩
  ·exact .bwd ih hm
  ·exfalso;exact hv ((Con.fwd ((hs _ (hI.rgE hm).1).1 hsf) hm).trans (hsub ih).symm)
theorem ac7 (j:Int):kR n (aN (M.map (f1 s k)) j):=fun f hf=>by
 by_cases hj:j=(k:Int)+1
 ·subst hj
  rcases (DV k3).1 hf with h|h
  ·exact hI.ein _ f h
  ·exact hI.ein _ f h.1
 ·exact hI.ein _ f ((DU k3 hj).1 hf)
theorem anM (j:Nat) (j1:1<=j) (j4:j<=4):∀f,f∈aN (M.map (f1 s k)) j->cz n (aN (M.map (f1 s k)) j) f.1<=n / 2 ^ j:=by
 intro f hf;have hein:=ac7 hI k3 ha hb hro hsm hs;have hr:0<=r/\r<n:=by rcases hro with ⟨rfl,rfl⟩|⟨rfl,rfl⟩<;>assumption
 by_cases hj:(j:Int)=(k:Int)+1
 ·have hjk:j=k+1:=by omega
  subst hjk;have hcast:((k+1:Nat):Int)=(k:Int)+1:=by omega
  rw [hcast] at hf ⊢;by_cases hc:Con (aN M k) r f.1
  ·refine Nat.le_trans (kW (hein _) (hI.ein k) ?_ hr fun x hx=>hc.trans (hx.sub fun g hg => ?_)) (hI.half ha hb hro hsm)
   ·exact (hc.range (hI.ein k) hr)
   ·rcases (DV k3).1 hg with h|h
    ·exact .of (qF (by omega) g h)
    ·exact .of h.1
  ·have hf':f∈aN M ((k:Int)+1):=by
    rcases (DV k3).1 hf with h|⟨h,h'⟩
    ·exact h
    ·exact absurd ((hs _ (hI.rgE h).1).1 h') hc
   have:=hI.sz (k+1) j1 j4 f (by rw [hcast];exact hf');rw [hcast] at this;exact Nat.le_trans (kW (hein _) (hI.ein _) (hI.rgE hf').1 (hI.rgE hf').1 fun x hx=>aqA hI k3 ha hb hro hsm hs hc hx) this
 ·have hf':=(DU k3 hj).1 hf;exact Nat.le_trans (kW (hein _) (hI.ein _) (hI.rgE hf').1 (hI.rgE hf').1 fun x hx=>hx.mono fun g hg=>(DU k3 hj).1 hg) (hI.sz j j1 j4 f hf')
theorem amn {M2:List aD} (h2:M2=(M.map (f1 s k)).map fun y=>if gJ s k y=1 then kT k y else y) (hno:∀y,y∈M.map (f1 s k)->gJ s k y≠2) (hgE:gE M2=gE M):Inv n M2 e ((k:Int)-1):=by
 have hr:0<=r/\r<n:=by rcases hro with ⟨rfl,rfl⟩|⟨rfl,rfl⟩<;>assumption
 have hein:=ac7 hI k3 ha hb hro hsm hs;have hB:∀(j:Int) (f:Ed),f∈aN M2 j↔f∈aN (M.map (f1 s k)) j:=by
  intro j f;rw [h2,fD,fD];constructor
  ·rintro ⟨y',hy',ht,hl,he⟩;obtain ⟨y,hy,rfl⟩:=List.mem_map.1 hy';by_cases c:gJ s k y=1
   ·rw [if_pos c] at ht;have ht':y.2.2.2=true:=ht;unfold gJ at c;rw [if_pos (.inl ht')] at c;omega
   ·rw [if_neg c] at ht hl he;exact ⟨y,hy,ht,hl,he⟩
  ·rintro ⟨y,hy,ht,hl,he⟩;refine ⟨y,List.mem_map.2 ⟨y,hy,if_neg fun c => ?_⟩,ht,hl,he⟩;unfold gJ at c;rw [if_pos (.inl ht)] at c;omega
 have hlow:∀(j:Int) (f:Ed),j<=k->(f∈aN M2 j↔f∈aN M j):=fun j f hj=>(hB j f).trans (DU k3 (by omega))
 have hup:∀(j:Int) (f:Ed),f∈aN M j->f∈aN M2 j:=fun j f h=>(hB j f).2 (ak9 k3 h)
 -- what is no edge of a forest
 have hnon:∀x,x∈M2->x.2.2.2=false->(x∈M/\gJ s k x≠1)\/∃y,y∈M/\y.2.2.2=false/\gJ s k y=1/\x=kT k y:=by
  intro x hx ht;rw [h2] at hx;obtain ⟨y,hy,rfl⟩:=List.mem_map.1 hx;by_cases c:gJ s k y=1
  ·rw [if_pos c] at ht ⊢;exact .inr ⟨y,(CR k3 (show y.2.2.2=false from ht)).1 hy,ht,c,rfl⟩
  ·rw [if_neg c] at ht ⊢;exact .inl ⟨(CR k3 ht).1 hy,c⟩
 have hrz:∀y:aD,(kT k y).2.2.1=(k:Int)+1:=fun y=>by
  unfold kT Zc;rw [if_neg (by omega)]
 have hp1:∀y:aD,y∈M->gJ s k y=1->Con (aN M k) r y.1/\Con (aN M k) r y.2.1:=by
  intro y hy c;unfold gJ at c;obtain ⟨g1,g2⟩:=hI.rg hy;split at c
  ·omega
  ·split at c
   ·rename_i h;exact ⟨(hs _ g1).1 h.1,(hs _ g2).1 h.2⟩
   ·omega
 refine ⟨by rw [hgE];exact hI.gr,?_,hI.nc.sub fun f hf=>(hlow 0 f (by omega)).1 hf,fun h=>hI.dis (h.mono fun f hf=>(hlow 0 f (by omega)).1 hf),?_,?_,?_,?_⟩
 ·intro x hx;rw [h2] at hx;obtain ⟨y,hy,rfl⟩:=List.mem_map.1 hx;by_cases c:gJ s k y=1
  ·rw [if_pos c,hrz];omega
  ·rw [if_neg c];exact anL k3 hI.lv (by omega) y hy
 ·intro x hx ht hlv;rcases hnon x hx ht with ⟨hxM,c⟩|⟨y,hy,hty,c,rfl⟩
  ·by_cases hk:x.2.2.1=k
   ·-- off the lesser side
    have hp:s x.1=false/\s x.2.1=false:=by
     have h2':=hno x ((CR k3 ht).2 hxM);unfold gJ at c h2';split at c
     ·rename_i h;rcases h with h|h|h
      ·rw [ht] at h;cases h
      ·exact absurd hk h
      ·exact h
     ·rename_i h;rw [if_neg h] at h2';split at c
      ·exact absurd rfl c
      ·rename_i h';rw [if_neg h'] at h2';exact absurd rfl h2'
    obtain ⟨g1,g2⟩:=hI.rg hxM;have n1:¬Con (aN M k) r x.1:=fun h=>by
     have:=(hs _ g1).2 h;rw [hp.1] at this;cases this
    have n2:¬Con (aN M k) r x.2.1:=fun h=>by
     have:=(hs _ g2).2 h;rw [hp.2] at this;cases this
    have:=hI.lo x hxM ht (by omega);rw [hk] at this ⊢;rcases (P_ hro).1 this with h|⟨h,_⟩|⟨_,h⟩
    ·exact h.mono fun f hf=>hup k f hf
    ·exact absurd h.symm n1
    ·exact absurd h n2
   ·exact (hI.hi x hxM ht (by omega)).mono fun f hf=>hup _ f hf
  ·rw [hrz];obtain ⟨c1,c2⟩:=hp1 y hy c;have u1:=aah hI k3 ha hb hro hsm hs c1;have u2:=aah hI k3 ha hb hro hsm hs c2;exact (u1.symm.trans u2).mono fun f hf=>(hB _ f).2 hf
 ·intro x hx ht hlv;rcases hnon x hx ht with ⟨hxM,c⟩|⟨y,hy,hty,c,rfl⟩
  ·refine (hI.lo x hxM ht (by omega)).mono fun f hf => ?_
   rcases List.mem_append.1 hf with h|h
   ·exact List.mem_append_left _ (hup _ f h)
   ·exact List.mem_append_right _ h
  ·rw [hrz] at hlv;omega
 ·intro j j1 j4 f hf;have hf':=(hB j f).1 hf;have hrf:0<=f.1/\f.1<n:=by
   have:=hein _ f hf';omega
  refine Nat.le_trans (kW (fun g hg=>hein _ g ((hB _ g).1 hg)) (hein j) hrf hrf fun x hx=>hx.mono fun g hg=>(hB _ g).1 hg) (anM hI k3 ha hb hro hsm hs j j1 j4 f hf')
 ·intro j hj;refine Nat.le_trans (kW (fun g hg => ?_) (hI.eine ha hb j) ha ha fun x hx=>hx.mono fun g hg => ?_) (hI.sz' j (by omega))
  ·rcases List.mem_append.1 hg with h|h
   ·exact hI.ein _ g ((hlow j g (by omega)).1 h)
   ·rw [List.mem_singleton.1 h];exact ⟨ha.1,ha.2,hb.1,hb.2⟩
  ·rcases List.mem_append.1 hg with h|h
   ·exact List.mem_append_left _ ((hlow j g (by omega)).1 h)
   ·exact List.mem_append_right _ h
end
section
variable {n:Nat} {M:List aD} {e:Ed} {k:Nat} (hI:Inv n M e (k:Int)) (k3:(k:Int)<=3) (ha:0<=e.1/\e.1<n) (hb:0<=e.2/\e.2<n)
 {r o:Int} (hro:(r=e.1/\o=e.2)\/(r=e.2/\o=e.1)) (hsm:cz n (aN M k) r<=cz n (aN M k) o)
 {s:Int->Bool} (hs:∀x:Int,0<=x/\x<n->(s x=true↔Con (aN M k) r x))
include hI k3 ha hb hro hsm hs
theorem amo {M2 A B:List aD} {x:aD} (h1:M.map (f1 s k)=A++x::B) (h2:M2=(A.map fun y=>if gJ s k y=1 then kT k y else y)++O7 x::B) (hx2:gJ s k x=2) (hgE:gE M2=gE M):WOk n M2:=by
 have hr:0<=r/\r<n:=by rcases hro with ⟨rfl,rfl⟩|⟨rfl,rfl⟩<;>assumption
 have hein:=ac7 hI k3 ha hb hro hsm hs;have hxt:x.2.2.2=false/\x.2.2.1=k/\¬(s x.1=false/\s x.2.1=false)/\¬(s x.1=true/\s x.2.1=true):=by
  unfold gJ at hx2;split at hx2
  ·omega
  ·rename_i h;split at hx2
   ·omega
   ·rename_i h';simp only [not_or] at h;refine ⟨by simpa using h.1,?_,h.2.2,h'⟩;apply Classical.byContradiction;exact h.2.1
 obtain ⟨xt,xk,xs1,xs2⟩:=hxt;have hxM:x∈M:=(CR k3 xt).1 (by rw [h1];exact List.mem_append_right _ (List.mem_cons_self ..));have hgr:iq n (gE M2)=true:=by rw [hgE];exact hI.gr
 -- the edges of the forests
 have hC:∀(j:Int) (f:Ed),f∈aN M2 j↔f∈aN (M.map (f1 s k)) j\/(f=(x.1,x.2.1)/\j<=k):=by
  intro j f;rw [h1,h2,fD,fD];constructor
  ·rintro ⟨y',hy',ht,hl,he⟩;rcases List.mem_append.1 hy' with hy'|hy'
   ·obtain ⟨y,hy,rfl⟩:=List.mem_map.1 hy';by_cases c:gJ s k y=1
    ·rw [if_pos c] at ht;have ht':y.2.2.2=true:=ht;unfold gJ at c;rw [if_pos (.inl ht')] at c;omega
    ·rw [if_neg c] at ht hl he;exact .inl ⟨y,List.mem_append_left _ hy,ht,hl,he⟩
   ·rcases List.mem_cons.1 hy' with rfl|hy'
    ·exact .inr ⟨he.symm,by rw [<-xk];exact hl⟩
    ·exact .inl ⟨y',List.mem_append_right _ (List.mem_cons_of_mem _ hy'),ht,hl,he⟩
  ·rintro (⟨y,hy,ht,hl,he⟩|⟨he,hl⟩)
   ·rcases List.mem_append.1 hy with hy|hy
    ·refine ⟨y,List.mem_append_left _ (List.mem_map.2 ⟨y,hy,if_neg fun c => ?_⟩),ht,hl,he⟩;unfold gJ at c;rw [if_pos (.inl ht)] at c;omega
    ·rcases List.mem_cons.1 hy with rfl|hy
     ·rw [xt] at ht;cases ht
     ·exact ⟨y,List.mem_append_right _ (List.mem_cons_of_mem _ hy),ht,hl,he⟩
   ·exact ⟨O7 x,List.mem_append_right _ (List.mem_cons_self ..),rfl,by show j<=x.2.2.1;omega,he.symm⟩
 have hup:∀(j:Int) (f:Ed),f∈aN M j->f∈aN M2 j:=fun j f h=>(hC j f).2 (.inl (ak9 k3 h))
 have hnon:∀y,y∈M2->y.2.2.2=false->y∈M\/∃z,z∈M/\z.2.2.2=false/\gJ s k z=1/\y=kT k z:=by
  intro y hy ht;rw [h2] at hy;rcases List.mem_append.1 hy with hy|hy
  ·obtain ⟨z,hz,rfl⟩:=List.mem_map.1 hy;by_cases c:gJ s k z=1
   ·rw [if_pos c] at ht ⊢;exact .inr ⟨z,(CR k3 (show z.2.2.2=false from ht)).1 (by rw [h1];exact List.mem_append_left _ hz),ht,c,rfl⟩
   ·rw [if_neg c] at ht ⊢;exact .inl ((CR k3 ht).1 (by rw [h1];exact List.mem_append_left _ hz))
  ·rcases List.mem_cons.1 hy with rfl|hy
   ·cases ht
   ·exact .inl ((CR k3 ht).1 (by rw [h1];exact List.mem_append_right _ (List.mem_cons_of_mem _ hy)))
 have hrz:∀y:aD,(kT k y).2.2.1=(k:Int)+1:=fun y=>by
  unfold kT Zc;rw [if_neg (by omega)]
 -- the found one joins the two sides
 obtain ⟨x1r,x2r⟩:=hI.rg hxM;have hlo:=hI.lo x hxM xt (by omega);rw [xk] at hlo;have hsides:(Con (aN M k) x.1 r/\Con (aN M k) o x.2.1)\/(Con (aN M k) x.1 o/\Con (aN M k) r x.2.1):=by
  rcases (P_ hro).1 hlo with h|h|h
  ·exfalso;by_cases c:s x.1=true
   ·exact xs2 ⟨c,(hs _ x2r).2 (((hs _ x1r).1 c).trans h)⟩
   ·refine xs1 ⟨by simpa using c,?_⟩;cases h':s x.2.1 with
    | false=>rfl
    | true=>exact absurd ((hs _ x1r).2 (((hs _ x2r).1 h').trans h.symm)) c
  ·exact .inl h
  ·exact .inr h
 have hdown:∀{j:Int},j<=k->∀{u v:Int},Con (aN M k) u v->Con (aN M j) u v:=by
  intro j hj u v h;exact h.mono (qF hj)
 have hmono:∀{j:Int} {u v:Int},Con (aN M j) u v->Con (aN M2 j) u v:=fun h=>h.mono fun f hf=>hup _ f hf
 have hjoin:∀j:Int,j<=k->Con (aN M2 j) r o:=by
  intro j hj;have hxx:Con (aN M2 j) x.1 x.2.1:=.of ((hC j _).2 (.inr ⟨rfl,hj⟩));rcases hsides with ⟨g1,g2⟩|⟨g1,g2⟩
  ·exact (hmono (hdown hj g1)).symm.trans (hxx.trans (hmono (hdown hj g2)).symm)
  ·exact (hmono (hdown hj g2)).trans (hxx.symm.trans (hmono (hdown hj g1)))
 have hrj:∀{j:Int},j<=k->∀{u v:Int},Con (aN M j++[e]) u v->Con (aN M2 j) u v:=by
  intro j hj u v h;rcases (P_ hro).1 h with h|⟨g1,g2⟩|⟨g1,g2⟩
  ·exact hmono h
  ·exact (hmono g1).trans ((hjoin j hj).trans (hmono g2))
  ·exact (hmono g1).trans ((hjoin j hj).symm.trans (hmono g2))
 have hjr:∀{j:Int},j<=k->∀{u v:Int},Con (aN M2 j) u v->Con (aN M j++[e]) u v:=by
  intro j hj u v h;refine h.sub fun f hf => ?_
  rcases (hC j f).1 hf with h|⟨rfl,_⟩
  ·exact .of (List.mem_append_left _ ((DU k3 (by omega)).1 h))
  ·refine hlo.mono fun g hg => ?_
   rcases List.mem_append.1 hg with h|h
   ·exact List.mem_append_left _ (qF hj g h)
   ·exact List.mem_append_right _ h
 refine ⟨hgr,?_,?_,?_,?_⟩
 ·intro y hy;have hl1:=anL k3 (s:=s) hI.lv (by omega);rw [h2] at hy;rcases List.mem_append.1 hy with hy|hy
  ·obtain ⟨z,hz,rfl⟩:=List.mem_map.1 hy;by_cases c:gJ s k z=1
   ·rw [if_pos c,hrz];omega
   ·rw [if_neg c];exact hl1 z (by rw [h1];exact List.mem_append_left _ hz)
  ·rcases List.mem_cons.1 hy with rfl|hy
   ·exact hI.lv x hxM
   ·exact hl1 y (by rw [h1];exact List.mem_append_right _ (List.mem_cons_of_mem _ hy))
 ·-- no ring
  have hno:¬Con (aN M 0) x.1 x.2.1:=by
   intro h;refine hI.dis' ha hb hro 0 (by omega) ?_;rcases hsides with ⟨g1,g2⟩|⟨g1,g2⟩
   ·exact (hdown (by omega) g1).symm.trans (h.trans (hdown (by omega) g2).symm)
   ·exact (hdown (by omega) g2).trans (h.symm.trans (hdown (by omega) g1))
  refine (V8 hI.nc hno).sub fun f hf => ?_
  rcases (hC 0 f).1 hf with h|⟨rfl,_⟩
  ·exact List.mem_append_left _ ((DU k3 (by omega)).1 h)
  ·exact List.mem_append_right _ (List.mem_singleton.2 rfl)
 ·intro y hy ht;have hcon:Con (aN M2 y.2.2.1) y.1 y.2.1:=by
   rcases hnon y hy ht with hyM|⟨z,hz,hzt,c,rfl⟩
   ·by_cases hl:y.2.2.1<=k
    ·exact hrj hl (hI.lo y hyM ht hl)
    ·exact hmono (hI.hi y hyM ht (by omega))
   ·rw [hrz];obtain ⟨g1,g2⟩:=hI.rg hz;have hc:s z.1=true/\s z.2.1=true:=by
     unfold gJ at c;split at c
     ·omega
     ·split at c
      ·assumption
      ·omega
    have u1:=aah hI k3 ha hb hro hsm hs ((hs _ g1).1 hc.1);have u2:=aah hI k3 ha hb hro hsm hs ((hs _ g2).1 hc.2);exact (u1.symm.trans u2).mono fun f hf=>(hC _ f).2 (.inl hf)
  have hrg:=eB ((ji hgr).1 (y.1,y.2.1) (List.mem_map.2 ⟨y,hy,rfl⟩));exact (iQ hgr _ ⟨hrg.1,hrg.2.1⟩ ⟨hrg.2.2.1,hrg.2.2.2.1⟩).2 hcon
 ·intro j j1 j4 f hf;rw [ac5];have he2:=jG hgr j;have hrf:0<=f.1/\f.1<n:=by
   have:=he2 f hf;omega
  by_cases hj:(j:Int)<=k
  ·have h3:=hI.sz' j hj;by_cases hc:Con (aN M j++[e]) f.1 e.1
   ·exact Nat.le_trans (kW he2 (hI.eine ha hb j) hrf ha fun v hv=>hc.symm.trans (hjr hj hv)) h3
   ·have hce:∀{v:Int},Con (aN M j++[e]) f.1 v->Con (aN M j) f.1 v:=by
     intro v hv;have hee:Con (aN M j++[e]) e.1 e.2:=.of (List.mem_append_right _ (List.mem_singleton.2 rfl));have hs':∀{u v:Int},Con (aN M j) u v->Con (aN M j++[e]) u v:=fun h=>h.mono fun g hg=>List.mem_append_left _ hg
     rcases (P_ (.inl ⟨rfl,rfl⟩)).1 hv with h|⟨g1,_⟩|⟨g1,_⟩
     ·exact h
     ·exact absurd (hs' g1) hc
     ·exact absurd ((hs' g1).trans hee.symm) hc
    have hfM:f∈aN M j:=by
     rcases (hC j f).1 hf with h|⟨rfl,_⟩
     ·exact (DU k3 (by omega)).1 h
     ·exfalso;have hee:Con (aN M j++[e]) r o:=by
       have h0:Con (aN M j++[e]) e.1 e.2:=.of (List.mem_append_right _ (List.mem_singleton.2 rfl));rcases hro with ⟨rfl,rfl⟩|⟨rfl,rfl⟩
       ·exact h0
       ·exact h0.symm
      have hs':∀{u v:Int},Con (aN M k) u v->Con (aN M j++[e]) u v:=fun h=>(hdown hj h).mono fun g hg=>List.mem_append_left _ hg
      have hxr:Con (aN M j++[e]) x.1 r:=by
       rcases hsides with ⟨g1,_⟩|⟨g1,_⟩
       ·exact hs' g1
       ·exact (hs' g1).trans hee.symm
      refine hc (hxr.trans ?_);rcases hro with ⟨rfl,rfl⟩|⟨rfl,rfl⟩
      ·exact .refl _
      ·exact hee
    exact Nat.le_trans (kW he2 (hI.ein j) hrf hrf fun v hv=>hce (hjr hj hv)) (hI.sz j j1 j4 f hfM)
  ·have hf':f∈aN (M.map (f1 s k)) j:=by
    rcases (hC j f).1 hf with h|⟨_,h⟩
    ·exact h
    ·exact absurd h hj
   refine Nat.le_trans (kW he2 (hein j) hrf hrf fun v hv=>hv.mono fun g hg => ?_) (anM hI k3 ha hb hro hsm hs j j1 j4 f hf');rcases (hC j g).1 hg with h|⟨_,h⟩
   ·exact h
   ·exact absurd h hj
end
theorem aoW {n:Nat} {M:List aD} {e:Ed} {k:Nat} (hI:Inv n M e (k:Int)) (k3:(k:Int)<=3) (ha:0<=e.1/\e.1<n) (hb:0<=e.2/\e.2<n) :
  ((sch n M e k).2=none->Inv n (sch n M e k).1 e ((k:Int)-1))/\((sch n M e k).2≠none->WOk n (sch n M e k).1):=by
 have hgE:=Wi n M e (k:Int)
 -- the lesser side
 have hro:((if cmp n M k e.2<cmp n M k e.1 then e.2 else e.1)=e.1/\(if cmp n M k e.2<cmp n M k e.1 then e.1 else e.2)=e.2)\/((if cmp n M k e.2<cmp n M k e.1 then e.2 else e.1)=e.2/\(if cmp n M k e.2<cmp n M k e.1 then e.1 else e.2)=e.1):=by
  by_cases h:cmp n M k e.2<cmp n M k e.1
  ·rw [if_pos h,if_pos h];exact .inr ⟨rfl,rfl⟩
  ·rw [if_neg h,if_neg h];exact .inl ⟨rfl,rfl⟩
 have hsm:cz n (aN M k) (if cmp n M k e.2<cmp n M k e.1 then e.2 else e.1)<=cz n (aN M k) (if cmp n M k e.2<cmp n M k e.1 then e.1 else e.2):=by
  by_cases h:cmp n M k e.2<cmp n M k e.1
  ·rw [if_pos h,if_pos h];exact Nat.le_of_lt h
  ·rw [if_neg h,if_neg h];exact Nat.le_of_not_lt h
 have hlc:(if cmp n M k e.2<cmp n M k e.1 then bI n M k e.2 else bI n M k e.1)=bI n M k (if cmp n M k e.2<cmp n M k e.1 then e.2 else e.1):=by
  by_cases h:cmp n M k e.2<cmp n M k e.1
  ·rw [if_pos h,if_pos h]
  ·rw [if_neg h,if_neg h]
 unfold sch at hgE ⊢;simp only at hgE ⊢;rw [hlc,We (Wh _ _)] at hgE ⊢;generalize (if cmp n M k e.2<cmp n M k e.1 then e.2 else e.1)=r at hro hsm hgE ⊢;generalize (if cmp n M k e.2<cmp n M k e.1 then e.1 else e.2)=o at hro hsm;have hr:0<=r/\r<n:=by rcases hro with ⟨rfl,rfl⟩|⟨rfl,rfl⟩<;>assumption
 have hs:∀x:Int,0<=x/\x<n->((fun x=>decide (bI n M k x=bI n M k r)) x=true↔Con (aN M k) r x):=by
  intro x hx;simp only [decide_eq_true_eq];rw [iQ hI.gr _ hx hr];exact ⟨fun h=>h.symm,fun h=>h.symm⟩
 generalize (fun x=>decide (bI n M k x=bI n M k r))=s at hs hgE ⊢;have hf1:(M.map fun y=>if pM s k y=1 then kT k y else y)=M.map (f1 s k):=rfl;rw [hf1] at hgE ⊢;simp only at hgE ⊢;unfold pK at hgE ⊢;by_cases hlt:(M.map (f1 s k)).findIdx (fun y=>decide (gJ s k y=2))<(M.map (f1 s k)).length
 ·rw [dif_pos hlt] at hgE ⊢;refine ⟨(fun h=>absurd h (by simp)),fun _ => ?_⟩;have h2:=List.findIdx_getElem (w:=hlt);have hsp:M.map (f1 s k)=(M.map (f1 s k)).take ((M.map (f1 s k)).findIdx fun y=>decide (gJ s k y=2))++(M.map (f1 s k))[(M.map (f1 s k)).findIdx fun y=>decide (gJ s k y=2)]::(M.map (f1 s k)).drop ((M.map (f1 s k)).findIdx (fun y=>decide (gJ s k y=2))+1):=by
   conv=>lhs;rw [<-List.take_append_drop ((M.map (f1 s k)).findIdx fun y=>decide (gJ s k y=2)) (M.map (f1 s k)),List.drop_eq_getElem_cons hlt]
  exact amo hI k3 ha hb hro hsm hs hsp rfl (by simpa using h2) hgE
 ·rw [dif_neg hlt] at hgE ⊢;refine ⟨fun _=>amn hI k3 ha hb hro hsm hs rfl (fun y hy h => ?_) hgE,fun h=>absurd rfl h⟩;refine hlt (List.findIdx_lt_length_of_exists ⟨y,hy,by simpa using h⟩)
theorem afZ {n:Nat} {e:Ed} (ha:0<=e.1/\e.1<n) (hb:0<=e.2/\e.2<n):∀(k:Nat) (M:List aD),k<=4->Inv n M e ((k:Int)-1)->WOk n (yP n e k M).1/\gE (yP n e k M).1=gE M
 | 0,M,_,hI=>⟨hI.wok,rfl⟩
 | k+1,M,hk,hI=>by
  have hlev:((k+1:Nat):Int)-1=(k:Int):=by omega
  rw [hlev] at hI;obtain ⟨h1,h2⟩:=aoW hI (by omega) ha hb;unfold yP;split
  ·rename_i hn;obtain ⟨g1,g2⟩:=afZ ha hb k _ (by omega) (h1 hn);exact ⟨g1,g2.trans (Wi ..)⟩
  ·rename_i hn;exact ⟨h2 (by rw [hn];simp),Wi ..⟩
theorem O8 (L:List aD) (p:Ed->Bool):gE (L.filter fun y=>p (y.1,y.2.1))=(gE L).filter p:=by
 unfold gE;rw [List.filter_map];rfl
theorem ak_:∀{L:List aD},(gE L).Nodup->∀{y z:aD},y∈L->z∈L->(y.1,y.2.1)=(z.1,z.2.1)->y=z
 | [],_,y,z,hy,_,_=>by cases hy
 | x::L,hn,y,z,hy,hz,he=>by
  have hn':((x.1,x.2.1)::gE L).Nodup:=hn;rw [List.nodup_cons] at hn';rcases List.mem_cons.1 hy with rfl|hy'
  ·rcases List.mem_cons.1 hz with rfl|hz'
   ·rfl
   ·exact absurd (List.mem_map.2 ⟨z,hz',he.symm⟩) hn'.1
  ·rcases List.mem_cons.1 hz with rfl|hz'
   ·exact absurd (List.mem_map.2 ⟨y,hy',he⟩) hn'.1
   ·exact ak_ hn'.2 hy' hz' he
def aqB:List Ed:=(List.range 12).flatMap fun (b:Nat)=>(List.range b).map fun (a:Nat)=>((a:Int),(b:Int))
theorem amq:aqB.length=66:=by decide
theorem O9 {n:Nat} {es:List Ed} (h:GrOk n es):es.length<=66:=by
 rw [<-amq];refine jy _ _ (O3 h.2.2.1) fun x hx => ?_
 have:=eB (h.2.2.2 x hx);have h12:=h.2.1;unfold aqB;rw [List.mem_flatMap];refine ⟨x.2.toNat,List.mem_range.2 (by omega),List.mem_map.2 ⟨x.1.toNat,List.mem_range.2 (by omega),?_⟩⟩;rw [Int.toNat_of_nonneg (by omega),Int.toNat_of_nonneg (by omega)]
theorem Wl {n:Nat} {es:List Ed} (h:GrOk n es):iq n es=true:=by
 unfold iq;rw [show aP (n:Int) 1 12=true from aC.2 (by have:=h.1;have:=h.2.1;omega),Gy h (O9 h)];rfl
theorem aiv {n:Nat} {es:List Ed} (h:iq n es=true) (h2:2<=n):GrOk n es:=by
 unfold iq at h;rw [aG,aC] at h;obtain ⟨h3,h4,_⟩:=jL h.2;exact ⟨by omega,by omega,h4,h3⟩
theorem WOk.con {n:Nat} {L:List aD} (hw:WOk n L) {y:aD} (hy:y∈L) (ht:y.2.2.2=false):Con (aN L y.2.2.1) y.1 y.2.1:=by
 have hr:=eB ((ji hw.gr).1 (y.1,y.2.1) (List.mem_map.2 ⟨y,hy,rfl⟩));exact (iQ hw.gr _ ⟨hr.1,hr.2.1⟩ ⟨hr.2.2.1,hr.2.2.2.1⟩).1 (hw.un y hy ht)
theorem WOk.same {n:Nat} {L:List aD} (hw:WOk n L) (u v:Int):Con (aN L 0) u v↔Con (gE L) u v:=by
 constructor
 ·intro h;exact h.mono fun e he=>(P7 L 0).subset he
 ·intro h;refine h.sub fun e he => ?_
  obtain ⟨y,hy,rfl⟩:=List.mem_map.1 he;have hl:=(hw.lv y hy).1;cases ht:y.2.2.2 with
  | true=>exact .of (fD.2 ⟨y,hy,ht,hl,rfl⟩)
  | false=>exact (hw.con hy ht).mono (qF hl)
theorem WOk.labs {n:Nat} {L:List aD} (hw:WOk n L):labs n (aN L 0)=labs n (gE L):=by
 have hE:kR n (gE L):=fun e he=>by
  have:=eB ((ji hw.gr).1 e he);exact ⟨this.1,this.2.1,this.2.2.1,this.2.2.2.1⟩
 exact (iP (jG hw.gr 0)).uniq (iP hE) hw.same
section
variable {n:Nat} {L:List aD} (hw:WOk n L) {e:Ed}
include hw
theorem aiw {old:aD} (ho:old∈L) (hoe:(old.1,old.2.1)=e) :
  WOk n (if old.2.2.2=true then (yP n e (old.2.2.1.toNat+1) (L.filter fun y=>decide ((y.1,y.2.1)≠e))).1 else L.filter fun y=>decide ((y.1,y.2.1)≠e)) /\
  gE (if old.2.2.2=true then (yP n e (old.2.2.1.toNat+1) (L.filter fun y=>decide ((y.1,y.2.1)≠e))).1 else L.filter fun y=>decide ((y.1,y.2.1)≠e))=del (gE L) e:=by
 have hin:e∈gE L:=List.mem_map.2 ⟨old,ho,hoe⟩;obtain ⟨hgE,hgn,hL6⟩:=ji hw.gr;have her:=eB (hgE e hin);have hgR:gE (L.filter fun y=>decide ((y.1,y.2.1)≠e))=del (gE L) e:=by
  rw [O8 L fun y=>decide (y≠e)];unfold del;congr 1;funext y;rw [decide_not]
 have hG:=aiv hw.gr (by omega);have hgr:iq n (gE (L.filter fun y=>decide ((y.1,y.2.1)≠e)))=true:=by
  rw [hgR];exact Wl hG.del
 have hm:∀y,y∈(L.filter fun y=>decide ((y.1,y.2.1)≠e))↔y∈L/\(y.1,y.2.1)≠e:=fun y=>by
  rw [List.mem_filter,decide_eq_true_eq]
 have hsub:∀(j:Int) (f:Ed),f∈aN (L.filter fun y=>decide ((y.1,y.2.1)≠e)) j->f∈aN L j:=by
  intro j f hf;obtain ⟨y,hy,ht,hl,he⟩:=fD.1 hf;exact fD.2 ⟨y,((hm y).1 hy).1,ht,hl,he⟩
 have hne:∀(j:Int) (f:Ed),f∈aN (L.filter fun y=>decide ((y.1,y.2.1)≠e)) j->f≠e:=by
  intro j f hf;obtain ⟨y,hy,ht,hl,he⟩:=fD.1 hf;rw [<-he];exact ((hm y).1 hy).2
 have hback:∀(j:Int) (f:Ed),f∈aN L j->f≠e->f∈aN (L.filter fun y=>decide ((y.1,y.2.1)≠e)) j:=by
  intro j f hf hfe;obtain ⟨y,hy,ht,hl,he⟩:=fD.1 hf;exact fD.2 ⟨y,(hm y).2 ⟨hy,by rw [he];exact hfe⟩,ht,hl,he⟩
 have hold:∀j:Int,e∈aN L j->old.2.2.2=true/\j<=old.2.2.1:=by
  intro j hf;obtain ⟨y,hy,ht,hl,he⟩:=fD.1 hf;have:=ak_ hgn hy ho (he.trans hoe.symm);subst this;exact ⟨ht,hl⟩
 generalize hR:(L.filter fun y=>decide ((y.1,y.2.1)≠e))=R at *
 have hnc:NoCyc (aN R 0):=hw.nc.sub fun f hf=>hsub 0 f hf
 have hsz:∀j:Nat,1<=j->j<=4->∀f,f∈aN R j->cz n (aN R j) f.1<=n / 2 ^ j:=by
  intro j j1 j4 f hf;have hrf:=jG hgr j f hf;exact Nat.le_trans (kW (jG hgr j) (jG hw.gr j) ⟨hrf.1,hrf.2.1⟩ ⟨hrf.1,hrf.2.1⟩ fun x hx=>hx.mono fun g hg=>hsub j g hg) (hw.sz j j1 j4 f (hsub j f hf))
 cases ht:old.2.2.2 with
 | false=>
  rw [if_neg (by simp)];refine ⟨⟨hgr,fun x hx=>hw.lv x ((hm x).1 hx).1,hnc,fun x hx hxt => ?_,hsz⟩,hgR⟩;have hr:=eB ((ji hgr).1 (x.1,x.2.1) (List.mem_map.2 ⟨x,hx,rfl⟩));refine (iQ hgr _ ⟨hr.1,hr.2.1⟩ ⟨hr.2.2.1,hr.2.2.2.1⟩).2 ((hw.con ((hm x).1 hx).1 hxt).mono fun f hf=>hback _ f hf ?_);rintro rfl;have:=(hold _ hf).1;rw [ht] at this;cases this
 | true=>
  rw [if_pos rfl];have hlv:=hw.lv old ho;have heat:∀j:Int,j<=old.2.2.1->e∈aN L j:=fun j hj=>fD.2 ⟨old,ho,ht,hj,hoe⟩
  have h3:old.2.2.1<=3:=by
   apply Classical.byContradiction;intro hno;have h4:=hw.sz 4 (by omega) (by omega) e (heat _ (by omega));rw [ac5] at h4;have h5:=aqz (jG hw.gr ((4:Nat):Int)) (v:=e.1) ⟨her.1,her.2.1⟩;have h6:=(O5 hw.gr).2;have:n / 2 ^ 4=0:=Nat.div_eq_of_lt (by omega);omega
  have hI:Inv n R e (old.2.2.1.toNat:Int):=by
   rw [Int.toNat_of_nonneg hlv.1];refine ⟨hgr,fun x hx=>hw.lv x ((hm x).1 hx).1,hnc,fun h => ?_,fun x hx hxt hk => ?_,fun x hx hxt hk => ?_,hsz,fun j hj => ?_⟩
   ·exact hw.nc e (heat 0 hlv.1) (h.mono fun f hf=>kr.2 ⟨hsub 0 f hf,hne 0 f hf⟩)
   ·refine (hw.con ((hm x).1 hx).1 hxt).mono fun f hf=>hback _ f hf ?_
    rintro rfl;have:=(hold _ hf).2;omega
   ·refine (hw.con ((hm x).1 hx).1 hxt).mono fun f hf => ?_
    by_cases hfe:f=e
    ·exact List.mem_append_right _ (List.mem_singleton.2 hfe)
    ·exact List.mem_append_left _ (hback _ f hf hfe)
   ·have h1:cz n (aN R j++[e]) e.1<=cz n (aN L j) e.1:=by
     refine kW (fun f hf => ?_) (jG hw.gr j) ⟨her.1,her.2.1⟩ ⟨her.1,her.2.1⟩ fun x hx=>hx.mono fun f hf => ?_
     ·rcases List.mem_append.1 hf with h|h
      ·exact jG hgr j f h
      ·rw [List.mem_singleton.1 h];exact ⟨her.1,her.2.1,her.2.2.1,her.2.2.2.1⟩
     ·rcases List.mem_append.1 hf with h|h
      ·exact hsub j f h
      ·rw [List.mem_singleton.1 h];exact heat j hj
    by_cases j0:j=0
    ·subst j0;have:=ara n (aN R ((0:Nat):Int)++[e]) e.1;simpa using this
    ·exact Nat.le_trans h1 (hw.sz j (by omega) (by omega) e (heat j hj))
  have:=afZ (n:=n) (e:=e) ⟨her.1,her.2.1⟩ ⟨her.2.2.1,her.2.2.2.1⟩ (old.2.2.1.toNat+1) R (by omega) (by rw [show ((old.2.2.1.toNat+1:Nat):Int)-1=(old.2.2.1.toNat:Int) from by omega];exact hI);exact ⟨this.1,this.2.trans hgR⟩
theorem ala (he:cZ n e=true) (hne:e∉gE L) :
  WOk n (L.filter (fun y=>lsB (y.1,y.2.1) e)++[(e.1,e.2,0,!decide (bI n L 0 e.1=bI n L 0 e.2))]++L.filter (fun y=>lsB e (y.1,y.2.1))) /\
  gE (L.filter (fun y=>lsB (y.1,y.2.1) e)++[(e.1,e.2,0,!decide (bI n L 0 e.1=bI n L 0 e.2))]++L.filter (fun y=>lsB e (y.1,y.2.1)))=ins (gE L) e:=by
 have her:=eB he;have hG:=aiv hw.gr (by omega);have hgR:gE (L.filter (fun y=>lsB (y.1,y.2.1) e)++[(e.1,e.2,0,!decide (bI n L 0 e.1=bI n L 0 e.2))]++L.filter (fun y=>lsB e (y.1,y.2.1)))=ins (gE L) e:=by
  have h1:=O8 L fun y=>lsB y e
  have h2:=O8 L fun y=>lsB e y
  unfold ins;rw [<-h1,<-h2];unfold gE;simp only [List.map_append,List.map_cons,List.map_nil]
 have hm:∀y,y∈(L.filter (fun y=>lsB (y.1,y.2.1) e)++[(e.1,e.2,0,!decide (bI n L 0 e.1=bI n L 0 e.2))]++L.filter (fun y=>lsB e (y.1,y.2.1)))↔y=(e.1,e.2,0,!decide (bI n L 0 e.1=bI n L 0 e.2))\/y∈L:=by
  intro y;simp only [List.mem_append,List.mem_filter,List.mem_singleton];constructor
  ·rintro ((h|h)|h)
   ·exact .inr h.1
   ·exact .inl h
   ·exact .inr h.1
  ·rintro (h|h)
   ·exact .inl (.inr h)
   ·cases h1:lsB (y.1,y.2.1) e with
    | true=>exact .inl (.inl ⟨h,rfl⟩)
    | false=>
     cases h2:lsB e (y.1,y.2.1) with
     | true=>exact .inr ⟨h,rfl⟩
     | false=>exact absurd (List.mem_map.2 ⟨y,h,XD h1 h2⟩) hne
 have hgr:iq n (gE (L.filter (fun y=>lsB (y.1,y.2.1) e)++[(e.1,e.2,0,!decide (bI n L 0 e.1=bI n L 0 e.2))]++L.filter (fun y=>lsB e (y.1,y.2.1))))=true:=by
  rw [hgR];exact Wl (hG.ins he)
 generalize (L.filter (fun y=>lsB (y.1,y.2.1) e)++[(e.1,e.2,0,!decide (bI n L 0 e.1=bI n L 0 e.2))]++L.filter (fun y=>lsB e (y.1,y.2.1)))=R at hgR hm hgr ⊢;have hat:∀(j:Int) (f:Ed),f∈aN R j↔f∈aN L j\/(f=e/\bI n L 0 e.1≠bI n L 0 e.2/\j<=0):=by
  intro j f;rw [fD,fD];constructor
  ·rintro ⟨y,hy,ht,hl,hf⟩;rcases (hm y).1 hy with rfl|hy
   ·simp only [Bool.not_eq_true',decide_eq_false_iff_not] at ht hl hf;exact .inr ⟨hf.symm,ht,hl⟩
   ·exact .inl ⟨y,hy,ht,hl,hf⟩
  ·rintro (⟨y,hy,ht,hl,hf⟩|⟨rfl,ht,hl⟩)
   ·exact ⟨y,(hm y).2 (.inr hy),ht,hl,hf⟩
   ·exact ⟨_,(hm _).2 (.inl rfl),by simp [ht],hl,rfl⟩
 have hcl:=iQ hw.gr 0 (u:=e.1) (v:=e.2) ⟨her.1,her.2.1⟩ ⟨her.2.2.1,her.2.2.2.1⟩;refine ⟨⟨hgr,fun x hx => ?_,?_,fun x hx hxt => ?_,fun j j1 j4 f hf => ?_⟩,hgR⟩
 ·rcases (hm x).1 hx with rfl|hx
  ·simp
  ·exact hw.lv x hx
 ·by_cases hc:bI n L 0 e.1=bI n L 0 e.2
  ·refine hw.nc.sub fun f hf => ?_
   rcases (hat 0 f).1 hf with h|h
   ·exact h
   ·exact absurd hc h.2.1
  ·refine (V8 hw.nc (fun h=>hc (hcl.2 h))).sub fun f hf => ?_
   rcases (hat 0 f).1 hf with h|h
   ·exact List.mem_append_left _ h
   ·exact List.mem_append_right _ (List.mem_singleton.2 h.1)
 ·have hr:=eB ((ji hgr).1 (x.1,x.2.1) (List.mem_map.2 ⟨x,hx,rfl⟩));refine (iQ hgr _ ⟨hr.1,hr.2.1⟩ ⟨hr.2.2.1,hr.2.2.2.1⟩).2 ?_;rcases (hm x).1 hx with rfl|hx
  ·simp only [Bool.not_eq_false',decide_eq_true_eq] at hxt;exact (hcl.1 hxt).mono fun f hf=>(hat 0 f).2 (.inl hf)
  ·exact (hw.con hx hxt).mono fun f hf=>(hat _ f).2 (.inl hf)
 ·have hf':f∈aN L j:=by
   rcases (hat j f).1 hf with h|h
   ·exact h
   ·have:=h.2.2;omega
  have hrf:=jG hgr j f hf;rw [ac5];refine Nat.le_trans (kW (jG hgr j) (jG hw.gr j) ⟨hrf.1,hrf.2.1⟩ ⟨hrf.1,hrf.2.1⟩ fun x hx=>hx.mono fun g hg => ?_) (hw.sz j j1 j4 f hf');rcases (hat j g).1 hg with h|h
  ·exact h
  ·have:=h.2.2;omega
end
theorem af0 {n:Nat} {E:List Ed} (h:kR n E):qC (n:Int) (labs n E)=true:=by
 have hL:=iP h;unfold qC;rw [if_pos (by rw [dD]),if_pos];intro i hi;have hg:=aR hi;unfold Lt;rw [hg];simp only;have h1:=hL.le hg;have h2:=hL.lt hg;rw [hL.self hg,aC.2 (by omega)];simp
def xK (v:Int) (y:Ed):Bool:=decide (y.1=v\/y.2=v)
structure ShR (x0:Int) (n:Nat) (L:List aD) (y:An):Prop where
 id:1<=x0/\x0<=3
 web:WOk n L
 an:xG y=true\/ek n y=true/\y.2.2.2=labs n (aN L 0)
theorem ShR.len {x0:Int} {n:Nat} {L:List aD} {y:An} (h:ShR x0 n L y):L.length<=66/\y.2.2.1.length<=66/\y.2.2.2.length<=12/\0<=y.1/\y.1<=100000:=by
 have h1:=(ji h.web.gr).2.2;have h12:=(O5 h.web.gr).2;rcases h.an with hb|⟨ha,hl⟩
 ·unfold xG at hb;simp only [aG,Bool.not_eq_true',decide_eq_true_eq] at hb;omega
 ·unfold ek at ha;simp only [aG] at ha;have h2:=aC.1 ha.2.1;have h3:=dF ha.2.2.1;rw [hl,dD];omega
def ar1:Int × Int × List aD × Int × Bool × List Ed × List Int × Int × Bool × List Ed × List Int × Int:=((0:Int),(0:Int),[],(0:Int),false,[],[],(0:Int),false,[],[],(1:Int))
def KG (x0:Int) (n:Int) (L:List aD) (y:An):Int × Int × List aD × Int × Bool × List Ed × List Int × Int × Bool × List Ed × List Int × Int:=(x0,n,L,y.1,y.2.1,y.2.2.1,y.2.2.2,y.1,y.2.1,y.2.2.1,y.2.2.2,(0:Int))
structure Dne (n:Nat) (L L':List aD) (o:kg) (y:An):Prop where
 num:y.1=o.1
 lab:y.2.2.2=labs n (aN L' 0)
 add:o.2.1=1\/o.2.1=4->(∀x,x∈gE L'↔x∈gE L\/x∈o.2.2.1)/\((∀z,z∈o.2.2.1->z∉gE L)->y.2.1=true)/\y.2.2.1=[]/\∀e,o.2.2.1=[e]->y.2.1 = !decide (e∈gE L)
 take:o.2.1=2->∃e,o.2.2.1=[e]/\gE L'=del (gE L) e/\y.2.1=decide (e∈gE L)/\y.2.2.1=[]
 rel:o.2.1=3->(∀x,x∈gE L'↔x∈gE L/\xK o.2.2.2 x=false)/\y.2.1=true/\y.2.2.1=(gE L).filter (xK o.2.2.2)/\(y.2.2.1=[]->L'=L)
theorem aoX {n:Nat} (h1:1<=n) (h2:n<=12):WOk n []:=
 ⟨by
  unfold iq
  rw [aC.2 (by omega),Bool.true_and]
  unfold jr
  rw [if_pos (fun i hi=>absurd hi (by simp [gE]))]
  rfl,fun x hx=>(by cases hx),fun e he=>(by cases he),fun x hx=>(by cases hx),fun k _ _ e he=>(by cases he)⟩
theorem aqC {n:Nat} {x0:Int} (h0:1<=x0/\x0<=3) (h1:1<=n) (h2:n<=12):ShR x0 n [] (0,false,[],[]):=⟨h0,aoX h1 h2,.inl rfl⟩
theorem alb {T A R s:List UInt8} (hs:s.length<=300) (hT:T=A++(vB s.length++(s++R))):fG T (A.length,false)=(s,(A.length+(vB s.length).length+s.length,false)):=by
 unfold fG;rw [uF (v:=s.length) (by omega) hT];unfold Rn;simp only;have hd:T.drop (A.length+(vB s.length).length)=s++R:=by
  rw [hT,<-List.append_assoc,<-bq,List.drop_left]
 have hl:A.length+(vB s.length).length+s.length<=T.length:=by
  rw [hT];simp only [bq];omega
 simp only [dC,hd,List.take_left];simp;omega
theorem alc {n:Int} {r:Rc} {T:List UInt8} (h:iy n r=some T):lY n T=some r:=by
 have key:(kw n T).1.2=false/\(kw n T).2=r:=by
  obtain ⟨k,a,b,c,d,sh,an0,an1,an2,an3,o0,o1,o2,o3⟩:=r;unfold iy at h;simp only at h;by_cases k1:k=1
  ·rw [if_pos k1] at h;split at h;case isFalse=>cases h
   case isTrue hc=>
   simp only [aG,decide_eq_true_eq,xG,xH,Bool.not_eq_true',List.length_eq_zero_iff] at hc;obtain ⟨⟨hsh,⟨x0,x1,x2,x3⟩,y0,y1,y2,y3⟩,i1,i2,i3,i4⟩:=hc;have i1:=aC.1 i1;have i2:=aC.1 i2;have i3:=aC.1 i3;have i4:=aC.1 i4;rw [aF] at h;subst k1 hsh x0 x1 x2 x3 y0 y1 y2 y3;have hT0:T=[]++((1:UInt8)::(vB a.toNat++vB b.toNat++vB c.toNat++vB d.toNat)):=by rw [<-h];simp
   have hT1:T=[1]++(vB a.toNat++(vB b.toNat++vB c.toNat++vB d.toNat)):=by rw [<-h];simp
   have hT2:T=([1]++vB a.toNat)++(vB b.toNat++(vB c.toNat++vB d.toNat)):=by rw [<-h];simp
   have hT3:T=([1]++vB a.toNat++vB b.toNat)++(vB c.toNat++vB d.toNat):=by rw [<-h];simp
   have hT4:T=([1]++vB a.toNat++vB b.toNat++vB c.toNat)++(vB d.toNat++[]):=by rw [<-h];simp
   have e0:on T (0,false)=(1,(1,false)):=by simpa using DT hT0
   have e1:=uF (v:=a.toNat) (by omega) hT1;have e2:=uF (v:=b.toNat) (by omega) hT2;have e3:=uF (v:=c.toNat) (by omega) hT3;have e4:=uF (v:=d.toNat) (by omega) hT4;simp only [bq,aX,List.length_nil,Nat.zero_add] at e1 e2 e3 e4;unfold kw;simp only [e0,e1,e2,e3,e4,Int.toNat_of_nonneg i1.1,Int.toNat_of_nonneg i2.1,Int.toNat_of_nonneg i3.1,Int.toNat_of_nonneg i4.1];exact ⟨rfl,rfl⟩
  ·rw [if_neg k1] at h;by_cases k2:k=2
   ·rw [if_pos k2] at h;split at h;case isFalse=>cases h
    case isTrue hc=>
    simp only [aG,decide_eq_true_eq,CL,xH,List.length_eq_zero_iff] at hc;obtain ⟨⟨⟨x0,x1,x2,x3⟩,⟨y0,y1,y2,y3⟩,i1⟩,ha⟩:=hc;have i1:=aC.1 i1;have hal:=OV ha;rw [aF] at h;subst k2 x0 x1 x2 x3 y0 y1 y2 y3;have hT0:T=[]++((2:UInt8)::(vB sh.toNat++(vB (aT (an0,an1,an2,an3)).length++aT (an0,an1,an2,an3)))):=by rw [<-h];simp
    have hT1:T=[2]++(vB sh.toNat++(vB (aT (an0,an1,an2,an3)).length++aT (an0,an1,an2,an3))):=by rw [<-h]
    have hT2:T=([2]++vB sh.toNat)++(vB (aT (an0,an1,an2,an3)).length++(aT (an0,an1,an2,an3)++[])):=by rw [<-h];simp
    have e0:on T (0,false)=(2,(1,false)):=by simpa using DT hT0
    have e1:=uF (v:=sh.toNat) (by omega) hT1;have e2:=alb hal hT2;simp only [bq,aX,List.length_nil,Nat.zero_add] at e1 e2;unfold kw;simp only [e0,e1,e2,aqw ha,Int.toNat_of_nonneg i1.1];exact ⟨rfl,rfl⟩
   ·rw [if_neg k2] at h;split at h;case isFalse=>cases h
    case isTrue k3=>
    split at h;case isFalse=>cases h
    case isTrue hc=>
    simp only [aG,decide_eq_true_eq,CL,xG,Bool.not_eq_true',List.length_eq_zero_iff] at hc;obtain ⟨⟨⟨x0,x1,x2,x3⟩,hsh,y0,y1,y2,y3⟩,ho⟩:=hc;have hol:=OT ho;rw [aF] at h;subst k3 x0 x1 x2 x3 hsh y0 y1 y2 y3;have hT0:T=[]++((3:UInt8)::(vB (oT (o0,o1,o2,o3)).length++oT (o0,o1,o2,o3))):=by rw [<-h];simp
    have hT1:T=[3]++(vB (oT (o0,o1,o2,o3)).length++(oT (o0,o1,o2,o3)++[])):=by rw [<-h];simp
    have e0:on T (0,false)=(3,(1,false)):=by simpa using DT hT0
    have e1:=alb hol hT1;simp only [bq,aX,List.length_nil,Nat.zero_add] at e1;unfold kw;simp only [e0,e1,aqv ho];exact ⟨rfl,rfl⟩
 unfold lY;rw [key.2,if_pos ⟨key.1,h⟩]
theorem amr {n:Int} {r:Rc} {T:List UInt8} (h:lY n T=some r):iy n r=some T:=by
 unfold lY at h;split at h
 ·rename_i hc;rw [aF] at h;rw [<-h];exact hc.2
 ·cases h
theorem ald (l:List Sd) (x:Sd) (k:Int):sA (l++[x]) k=if 0<=sA l k then sA l k else if x.1=k then (l.length:Int) else -1:=by
 unfold sA;rw [List.findIdx_append,bq];by_cases h:l.findIdx (fun y=>decide (y.1=k))<l.length
 ·have h':l.findIdx (fun y=>decide (y.1=k))<l.length+[x].length:=by omega
  simp only [if_pos h,if_pos h'];rw [if_pos (by omega)]
 ·simp only [if_neg h];rw [if_neg (show ¬(0:Int)<=-1 from by decide)];by_cases hx:x.1=k
  ·have h0:[x].findIdx (fun y=>decide (y.1=k))=0:=by simp [List.findIdx_cons,hx]
   rw [h0,if_pos hx,if_pos (by simp only [aX,List.length_nil];omega)];omega
  ·have h0:[x].findIdx (fun y=>decide (y.1=k))=1:=by simp [List.findIdx_cons,hx]
   rw [h0,if_neg hx,if_neg (by simp only [aX,List.length_nil];omega)]
theorem af1 {l:List Sd} {i op a b v:Int} (h:LB l) (hi:sA l i<0) (hv:1<=v/\v<=3):LB (l++[(i,i,op,a,b,v)]):=by
 intro j hj;rw [bq] at hj;simp only [aX,List.length_nil] at hj;unfold p4 p4c;by_cases hjl:j<l.length
 ·have h1:=h j hjl;unfold p4 p4c at h1;have hg:(l++[(i,i,op,a,b,v)]).getD j (0,0,0,0,0,0)=l.getD j (0,0,0,0,0,0):=by
   rw [bN,bN,List.getElem?_append_left hjl]
  rw [hg];simp only [aG,decide_eq_true_eq] at h1 ⊢;refine ⟨h1.1,h1.2.1,?_⟩;rw [ald,if_pos (by omega)];exact h1.2.2
 ·have hjl':j=l.length:=by omega
  subst hjl';have hg:(l++[(i,i,op,a,b,v)]).getD l.length (0,0,0,0,0,0)=(i,i,op,a,b,v):=by
   rw [bN,List.getElem?_append_right (Nat.le_refl _),Nat.sub_self];rfl
  rw [hg];simp only [aG,decide_eq_true_eq];refine ⟨trivial,aC.2 hv,?_⟩;rw [ald,if_neg (by omega),if_pos rfl]
theorem CS {α:Type} (l:List α) (i j:Nat) (x d:α) (hi:i<l.length):(l.set i x).getD j d=if j=i then x else l.getD j d:=by
 rw [bN,bN,List.getElem?_set];by_cases h:i=j
 ·subst h;rw [if_pos rfl,if_pos hi,if_pos rfl];rfl
 ·rw [if_neg h,if_neg (fun h'=>h h'.symm)]
abbrev uQ:=List aD × An
structure Ply (n:Nat) (own:List Int) (cuts:List Ed) (lab:List (List Int)) (nums:List Int) (said:List Sd) (ss:List uQ) (g:List Ed) (c:Nat):Prop where
 n2:2<=n/\n<=12
 k:1<=ss.length/\ss.length<=3/\lab.length=ss.length/\nums.length=ss.length
 owr:own.length=n/\∀v:Int,0<=v/\v<n->1<=own.getD v.toNat 0/\own.getD v.toNat 0<=ss.length
 cgr:GrOk n cuts
 cut:∀e,e∈cuts->own.getD e.1.toNat 0≠own.getD e.2.toNat 0
 sh:∀(j:Nat) (L:List aD) (y:An),ss[j]?=some (L,y)->ShR ((j:Int)+1) n L y/\nums.getD j 0=y.1/\y.1<=c/\lab.getD j []=labs n (gE L)/\∀e,e∈gE L->own.getD e.1.toNat 0=(j:Int)+1/\own.getD e.2.toNat 0=(j:Int)+1
 gr:GrOk n g
 gin:∀e,e∈g↔e∈cuts\/∃(j:Nat) (L:List aD) (y:An),ss[j]?=some (L,y)/\e∈gE L
 sdo:LB said/\said.length<=c
section
variable {n:Nat} {own:List Int} {cuts:List Ed} {lab:List (List Int)} {nums:List Int} {said:List Sd} {ss:List uQ} {g:List Ed} {c:Nat}
theorem Ply.at (h:Ply n own cuts lab nums said ss g c) {s:Int} (h1:1<=s/\s<=ss.length):∃L y,ss[(s-1).toNat]?=some (L,y):=by
 have hl:(s-1).toNat<ss.length:=by omega
 exact ⟨_,_,aR hl⟩
theorem Qa {x0:Int} {L:List aD} {y:An} (h:ShR x0 n L y):kR n (gE L):=fun e he=>by
 have:=eB ((ji h.web.gr).1 e he)
 exact ⟨this.1,this.2.1,this.2.2.1,this.2.2.2.1⟩
theorem Ply.hd (h:Ply n own cuts lab nums said ss g c) (hc:c<=80) {t:Bool} (ht:t=true):zg n own cuts lab nums said t=true:=by
 obtain ⟨k1,k2,k3,k4⟩:=h.k;have hn:=h.n2;unfold zg;rw [decide_eq_true_eq];refine ⟨⟨aC.2 (by omega),aC.2 (by omega),by omega⟩,fun i hi => ?_,⟨by rw [h.owr.1],Gy h.cgr (O9 h.cgr)⟩,fun i hi => ?_,fun i hi => ?_,⟨h.sdo.1,by have:=h.sdo.2;omega⟩,ht⟩
 ·have hl:i<ss.length:=by omega
  obtain ⟨s1,s2,s3,s4,_⟩:=h.sh i _ _ (aR hl);have h0:=s1.len.2.2.2.1;unfold p3;rw [s4,s2,af0 (Qa s1),aC.2 (by omega)];rfl
 ·rw [h.owr.1] at hi;have:=h.owr.2 (i:Int) (by omega);rw [dC] at this;unfold p1;exact aC.2 (by omega)
 ·unfold p2;have e:cuts.getD i (0,0)=cuts[i]:=by rw [bN,aR hi];rfl
  rw [e,au (h.cut _ (List.getElem_mem hi))];rfl
theorem Ply.one (h:Ply n own cuts lab nums said ss g c) {e:Ed} {s:Int} (h1:own.getD e.1.toNat 0=s) (h2:own.getD e.2.toNat 0=s) {L:List aD} {y:An} (hs:ss[(s-1).toNat]?=some (L,y)) (s1:1<=s):e∈g↔e∈gE L:=by
 rw [h.gin];constructor
 ·rintro (hc|⟨j,L',y',hj,he⟩)
  ·exact absurd (h1.trans h2.symm) (h.cut e hc)
  ·have:=(h.sh j L' y' hj).2.2.2.2 e he;have hjs:j=(s-1).toNat:=by omega
   subst hjs;rw [hs] at hj;cases hj;exact he
 ·intro he;exact .inr ⟨_,_,_,hs,he⟩
theorem Ply.two (h:Ply n own cuts lab nums said ss g c) {e:Ed} (h1:own.getD e.1.toNat 0≠own.getD e.2.toNat 0):e∈g↔e∈cuts:=by
 rw [h.gin];constructor
 ·rintro (hc|⟨j,L',y',hj,he⟩)
  ·exact hc
  ·have:=(h.sh j L' y' hj).2.2.2.2 e he;exact absurd (this.1.trans this.2.symm) h1
 ·exact .inl
theorem Ply.onw (h:Ply n own cuts lab nums said ss g c) {said':List Sd} (hs:LB said'/\said'.length<=c+1):Ply n own cuts lab nums said' ss g (c+1):=
 ⟨h.n2,h.k,h.owr,h.cgr,h.cut,fun j L y hj=>by
  obtain ⟨s1,s2,s3,s4,s5⟩:=h.sh j L y hj
  exact ⟨s1,s2,by omega,s4,s5⟩,h.gr,h.gin,hs⟩
theorem Ply.upd (h:Ply n own cuts lab nums said ss g c) {s:Int} (hs1:1<=s) {L L':List aD} {y z:An} (hs:ss[(s-1).toNat]?=some (L,y)) (hR:ShR s n L' z) (hz:z.1=y.1+1) (hl:z.2.2.2=labs n (gE L'))
  {own':List Int} (ho:own'.length=n/\∀v:Int,0<=v/\v<n->1<=own'.getD v.toNat 0/\own'.getD v.toNat 0<=ss.length) {cuts':List Ed} (hc:GrOk n cuts') (hcut:∀e,e∈cuts'->own'.getD e.1.toNat 0≠own'.getD e.2.toNat 0)
  (hL:∀e,e∈gE L'->own'.getD e.1.toNat 0=s/\own'.getD e.2.toNat 0=s)
  (hoth:∀(j:Nat) (M:List aD) (w:An),j≠(s-1).toNat->ss[j]?=some (M,w)->∀e,e∈gE M->own'.getD e.1.toNat 0=(j:Int)+1/\own'.getD e.2.toNat 0=(j:Int)+1)
  {g':List Ed} (hgr:GrOk n g') (hg:∀e,e∈g'↔e∈cuts'\/e∈gE L'\/∃(j:Nat) (M:List aD) (w:An),j≠(s-1).toNat/\ss[j]?=some (M,w)/\e∈gE M)
  {said':List Sd} (hsd:LB said'/\said'.length<=c+1) :
  Ply n own' cuts' (lab.set (s-1).toNat z.2.2.2) (nums.set (s-1).toNat z.1) said' (ss.set (s-1).toNat (L',z)) g' (c+1):=by
 obtain ⟨k1,k2,k3,k4⟩:=h.k;have hlt:=(aY hs).1;refine ⟨h.n2,by simp only [mg];omega,by rw [mg];exact ho,hc,hcut,fun j M w hj => ?_,hgr,fun e => ?_,hsd⟩
 ·rw [List.getElem?_set] at hj;by_cases hjs:(s-1).toNat=j
  ·subst hjs;rw [if_pos rfl,if_pos hlt] at hj;cases hj;have he:(((s-1).toNat:Nat):Int)+1=s:=by omega
   rw [he,CS _ _ _ _ _ (by omega),CS _ _ _ _ _ (by omega),if_pos rfl,if_pos rfl];have:=(h.sh _ _ _ hs).2.2.1;exact ⟨hR,rfl,by omega,hl,hL⟩
  ·rw [if_neg hjs] at hj;rw [CS _ _ _ _ _ (by omega),CS _ _ _ _ _ (by omega),if_neg (fun h=>hjs h.symm),if_neg (fun h=>hjs h.symm)];obtain ⟨s1,s2,s3,s4,s5⟩:=h.sh j M w hj;exact ⟨s1,s2,by omega,s4,hoth j M w (fun h=>hjs h.symm) hj⟩
 ·rw [hg];constructor
  ·rintro (h1|h1|⟨j,M,w,hj,hm,he⟩)
   ·exact .inl h1
   ·exact .inr ⟨(s-1).toNat,L',z,by rw [List.getElem?_set,if_pos rfl,if_pos hlt],h1⟩
   ·exact .inr ⟨j,M,w,by rw [List.getElem?_set,if_neg (fun h=>hj h.symm)];exact hm,he⟩
  ·rintro (h1|⟨j,M,w,hj,he⟩)
   ·exact .inl h1
   ·rw [List.getElem?_set] at hj;by_cases hjs:(s-1).toNat=j
    ·rw [if_pos hjs,if_pos hlt] at hj;cases hj;exact .inr (.inl he)
    ·rw [if_neg hjs] at hj;exact .inr (.inr ⟨j,M,w,fun h=>hjs h.symm,hj,he⟩)
end
inductive Pnd (n:Nat) (own:List Int) (cuts:List Ed) (lab:List (List Int)) (nums:List Int) (said:List Sd) (ss:List uQ) (g:List Ed) (c:Nat):Int->Int->Int->Int->Int->Int->Int->List Ed->Int->Prop
 | idle (h:Ply n own cuts lab nums said ss g c):Pnd n own cuts lab nums said ss g c 0 0 0 0 0 0 0 [] 0
 | chg {i op a b:Int} (h:Ply n own cuts lab nums said ss g c) (hi:aP i 1 100000=true) (hs:sA said i<0) (ho:op=1\/op=2) (ha:0<=a/\a<n) (hb:0<=b/\b<n) (hab:a≠b) (hw:own.getD a.toNat 0=own.getD b.toNat 0) :
   Pnd n own cuts lab nums said ss g c i op a b (own.getD a.toNat 0) (nums.getD (own.getD a.toNat 0-1).toNat 0+1) op [eG a b] 0
 | rel {i a b:Int} (h:Ply n own cuts lab nums said ss g c) (hi:aP i 1 100000=true) (hs:sA said i<0) (ha:0<=a/\a<n) (hb:1<=b/\b<=ss.length) (hw:own.getD a.toNat 0≠b) :
   Pnd n own cuts lab nums said ss g c i 4 a b (own.getD a.toNat 0) (nums.getD (own.getD a.toNat 0-1).toNat 0+1) 3 [] a
 | acc {i a b:Int} {es g':List Ed} (h:Ply n own cuts lab nums said ss g' c) (hi:aP i 1 100000=true) (hs:sA said i<0) (ha:0<=a/\a<n) (hb:1<=b/\b<=ss.length) (hes:GrOk n es/\es≠[]) (hin:∀e,e∈es->own.getD e.1.toNat 0=b/\own.getD e.2.toNat 0=b/\e∉g') (hgr:GrOk n g) (hg:∀e,e∈g↔e∈g'\/e∈es) :
   Pnd n own cuts lab nums said ss g c i 4 a b b (nums.getD (b-1).toNat 0+1) 4 es 0
section
variable {n:Nat} {own:List Int} {cuts:List Ed} {lab:List (List Int)} {nums:List Int} {said:List Sd} {ss:List uQ} {g:List Ed} {c:Nat} {x5 x6 x7 x8 x9 x10 x11:Int} {x12:List Ed} {x13:Int}
theorem Pnd.ply (h:Pnd n own cuts lab nums said ss g c x5 x6 x7 x8 x9 x10 x11 x12 x13):∃g',Ply n own cuts lab nums said ss g' c:=by
 cases h with
 | idle h=>exact ⟨_,h⟩
 | chg h=>exact ⟨_,h⟩
 | rel h=>exact ⟨_,h⟩
 | acc h=>exact ⟨_,h⟩
theorem ac8 {o:kg} (hn:2<=n/\n<=12) (h1:1<=o.1/\o.1<=100000) (h2:(o.2.1=1\/o.2.1=2)/\o.2.2.1.length=1/\o.2.2.2=0\/o.2.1=3/\o.2.2.1=[]/\(0<=o.2.2.2/\o.2.2.2<n)\/o.2.1=4/\o.2.2.1≠[]/\o.2.2.2=0) (hg:GrOk n o.2.2.1):fw n o=true:=by
 unfold fw;rw [aC.2 (by omega),aC.2 h1,aC.2 (by omega),Gy hg (O9 hg)];rcases h2 with ⟨h2,h3,h4⟩|⟨h2,h3,h4⟩|⟨h2,h3,h4⟩
 ·rw [if_neg (by omega),if_neg (by omega),ah h3,ah h4];rfl
 ·rw [if_pos h2,ah (by rw [h3];rfl),aC.2 (by omega)];rfl
 ·rw [if_neg (by omega),if_pos h2,ah (List.length_pos_iff.2 h3),ah h4];rfl
theorem O_ {a b:Int} (hn:2<=n/\n<=12) (ha:0<=a/\a<n) (hb:0<=b/\b<n) (hab:a≠b):cZ n (eG a b)=true:=by
 unfold eG cZ;split
 ·rw [aC.2 (by omega),aC.2 (by simp only;omega),aC.2 (by simp only;omega),ah (by assumption)];rfl
 ·rw [aC.2 (by omega),aC.2 (by simp only;omega),aC.2 (by simp only;omega),ah (by simp only;omega)];rfl
theorem aqD {e:Ed} (hn:2<=n/\n<=12) (he:cZ n e=true):GrOk n [e]:=
 ⟨by omega,by omega,List.pairwise_singleton _ _,fun x hx=>by rw [List.mem_singleton.1 hx];exact he⟩
theorem ac9 (hn:2<=n/\n<=12):GrOk n []:=⟨by omega,by omega,List.Pairwise.nil,fun x hx=>by cases hx⟩
theorem Pnd.ord (h:Pnd n own cuts lab nums said ss g c x5 x6 x7 x8 x9 x10 x11 x12 x13) (h9:x9≠0) (hc:c<=80) :
  (1<=x9/\x9<=ss.length)/\∃L y,ss[(x9-1).toNat]?=some (L,y)/\fw n (x10,x11,x12,x13)=true/\x10=y.1+1/\x10=nums.getD (x9-1).toNat 0+1:=by
 have num:∀{g'} (hP:Ply n own cuts lab nums said ss g' c) {s:Int},1<=s/\s<=ss.length->∃L y,ss[(s-1).toNat]?=some (L,y)/\nums.getD (s-1).toNat 0=y.1/\0<=y.1/\y.1<=c:=by
  intro g' hP s hs;obtain ⟨L,y,hy⟩:=hP.at hs;obtain ⟨s1,s2,s3,_⟩:=hP.sh _ _ _ hy;exact ⟨L,y,hy,s2,s1.len.2.2.2.1,s3⟩
 cases h with
 | idle h=>exact absurd rfl h9
 | chg h hi hs ho ha hb hab hw=>
  have hr:=h.owr.2 _ ha;obtain ⟨L,y,hy,y1,y2,y3⟩:=num h hr;exact ⟨hr,L,y,hy,ac8 h.n2 (by simp only;omega) (.inl ⟨ho,rfl,rfl⟩) (aqD h.n2 (O_ h.n2 ha hb hab)),by omega,rfl⟩
 | rel h hi hs ha hb hw=>
  have hr:=h.owr.2 _ ha;obtain ⟨L,y,hy,y1,y2,y3⟩:=num h hr;exact ⟨hr,L,y,hy,ac8 h.n2 (by simp only;omega) (.inr (.inl ⟨rfl,rfl,ha⟩)) (ac9 h.n2),by omega,rfl⟩
 | acc h hi hs ha hb hes hin hgr hg=>
  obtain ⟨L,y,hy,y1,y2,y3⟩:=num h hb;exact ⟨hb,L,y,hy,ac8 h.n2 (by simp only;omega) (.inr (.inr ⟨rfl,hes.2,rfl⟩)) hes.1,by omega,rfl⟩
theorem aix {k:Nat} {op a b:Int} (h:(op=1\/op=2)/\(0<=a/\a<n)/\(0<=b/\b<n)/\a≠b\/op=4/\(0<=a/\a<n)/\(1<=b/\b<=k)):zf n k op a b=true:=by
 unfold zf;rcases h with ⟨h1,h2,h3,h4⟩|⟨h1,h2,h3⟩
 ·rw [aC.2 (by omega),aC.2 (by omega),au (by omega),aj,aC.2 (by omega),au h4];rfl
 ·rw [aC.2 (by omega),aC.2 (by omega),ah h1,ai,aC.2 (by omega)];rfl
theorem Pnd.tk (h:Pnd n own cuts lab nums said ss g c x5 x6 x7 x8 x9 x10 x11 x12 x13) (hc:c<=80):CO n lab.length nums said x5 x6 x7 x8 x9 (x10,x11,x12,x13)=true:=by
 unfold CO;by_cases h9:x9=0
 ·have:tB x5 x6 x7 x8 x9 (x10,x11,x12,x13)=true:=by
   have hr:∀{g'} (hP:Ply n own cuts lab nums said ss g' c) {a:Int},0<=a/\a<n->own.getD a.toNat 0≠0:=by
    intro g' hP a ha;have:=hP.owr.2 a ha;omega
   cases h with
   | idle h=>rfl
   | chg h hi hs ho ha hb hab hw=>exact absurd h9 (hr h ha)
   | rel h hi hs ha hb hw=>exact absurd h9 (hr h ha)
   | acc h hi hs ha hb hes hin hgr hg=>omega
  rw [this];rfl
 ·obtain ⟨h1,L,y,h2,h3,h4,h5⟩:=h.ord h9 hc;obtain ⟨g',hP⟩:=h.ply;have hk:=hP.k;have hy:=(hP.sh _ _ _ h2).1.len;have hlast:(aP x5 1 100000&&(!decide (x6=3)&&zf n lab.length x6 x7 x8))=true/\sA said x5<0:=by
   cases h with
   | idle h=>exact absurd rfl h9
   | chg h hi hs ho ha hb hab hw=>
    rw [hi,au (by omega),aix (.inl ⟨ho,ha,hb,hab⟩)];exact ⟨rfl,hs⟩
   | rel h hi hs ha hb hw=>
    rw [hi,aix (.inr ⟨rfl,ha,by omega⟩)];exact ⟨rfl,hs⟩
   | acc h hi hs ha hb hes hin hgr hg=>
    rw [hi,aix (.inr ⟨rfl,ha,by omega⟩)];exact ⟨rfl,hs⟩
  rw [hlast.1,aC.2 (show 1<=x9/\x9<=(lab.length:Int) from by omega),h3,wr (n:=nums.getD (x9-1).toNat 0+1) (by omega) (by omega),ah (show (x10,x11,x12,x13).1=nums.getD (x9-1).toNat 0+1 from h5),ah hlast.2];simp
theorem Pnd.hd (h:Pnd n own cuts lab nums said ss g c x5 x6 x7 x8 x9 x10 x11 x12 x13) (hc:c<=80):zg n own cuts lab nums said (CO n lab.length nums said x5 x6 x7 x8 x9 (x10,x11,x12,x13))=true:=by
 obtain ⟨g',hP⟩:=h.ply;exact hP.hd hc (h.tk hc)
end
section
variable {n:Nat} {g:List Ed} (hg:GrOk n g)
include hg
theorem KH {op a b:Int} (h:op=1\/op=2) (ha:0<=a/\a<n) (hb:0<=b/\b<n) (hab:a≠b) :
  uP n g op a b=(let r:=if op=2 then aig n g (eG a b) else SY n g (eG a b);if r.2.2 then (r.1,r.2.1,1) else ((n:Int),g,2)):=by
 unfold uP;rw [aC.2 (by omega),ah ha.1,ah ha.2,ah hb.1,ah hb.2,au hab];simp only [Bool.and_self,if_true,Bool.false_and,ik];rw [if_neg (by omega),if_neg (by omega)]
theorem XP {a b:Int} (ha:0<=a/\a<n) (hb:0<=b/\b<n) (hab:a≠b) (he:eG a b∉g):uP n g 1 a b=((n:Int),ins g (eG a b),1)/\uP n g 2 a b=((n:Int),g,2):=by
 have hn:2<=n/\n<=12:=by have:=hg.1;have:=hg.2.1;omega
 rw [KH hg (.inl rfl) ha hb hab,KH hg (.inr rfl) ha hb hab];unfold aig SY;rw [Wl hg,O_ hn ha hb hab,au he];exact ⟨rfl,rfl⟩
theorem XQ {a b:Int} (ha:0<=a/\a<n) (hb:0<=b/\b<n) (hab:a≠b) (he:eG a b∈g):uP n g 1 a b=((n:Int),g,2)/\uP n g 2 a b=((n:Int),del g (eG a b),1):=by
 have hn:2<=n/\n<=12:=by have:=hg.1;have:=hg.2.1;omega
 rw [KH hg (.inl rfl) ha hb hab,KH hg (.inr rfl) ha hb hab];unfold aig SY;rw [Wl hg,O_ hn ha hb hab,ah he];exact ⟨rfl,rfl⟩
omit hg in
theorem Tf {a b:Int} (ha:0<=a/\a<n):uP n g 4 a b=((n:Int),g,if aP b 1 3=true then 1 else 3):=by
 unfold uP;rw [aC.2 (by omega),ah ha.1,ah ha.2];rfl
theorem aoY {a b:Int} (ha:0<=a/\a<n) (hb:0<=b/\b<n):uP n g 3 a b=((n:Int),g,if (labs n g).getD a.toNat 0=(labs n g).getD b.toNat 0 then 1 else 2):=by
 unfold uP;rw [aC.2 (by omega),ah ha.1,ah ha.2,ah hb.1,ah hb.2];simp only [Bool.and_self,if_true,decide_true,bz,Bool.and_false,ik];rw [if_neg (by omega)];unfold tgB;rw [Wl hg,aC.2 (by omega),aC.2 (by omega),dC];simp only [Bool.true_and,decide_eq_true_eq]
omit hg in
theorem aoZ {k:Nat} (hk:k<=3) {op a b:Int} (h:zf n k op a b=false):(uP n g op a b).2.1=g/\((uP n g op a b).2.2=3\/op=4/\(uP n g op a b).2.2=1):=by
 unfold zf at h;unfold uP;by_cases h1:aP op 1 4=true
 ·rw [h1] at h ⊢;by_cases h2:0<=a/\a<n
  ·rw [aC.2 (show 0<=a/\a<=(n:Int)-1 from by omega)] at h;rw [ah h2.1,ah h2.2];simp only [Bool.and_self,if_true,Bool.true_and] at h ⊢;by_cases h4:op=4
   ·rw [if_pos h4];refine ⟨rfl,?_⟩;by_cases h5:aP b 1 3=true
    ·exact .inr ⟨h4,by rw [if_pos h5]⟩
    ·exact .inl (by rw [if_neg h5])
   ·rw [au h4,aj] at h;rw [if_neg h4,if_neg]
    ·exact ⟨rfl,.inl rfl⟩
    ·intro hc;simp only [aG,decide_eq_true_eq,Bool.not_eq_true',Bool.and_eq_false_iff,decide_eq_false_iff_not,Bool.not_eq_false'] at hc;rw [aC.2 (show 0<=b/\b<=(n:Int)-1 from by omega)] at h;simp only [Bool.true_and,Bool.not_eq_false',aG,decide_eq_true_eq,Bool.or_eq_true] at h;rcases hc.2 with h6|h6
     ·exact h6 h.1
     ·omega
  ·rw [if_neg]
   ·exact ⟨rfl,.inl rfl⟩
   ·simp only [aG,decide_eq_true_eq];exact fun hc=>h2 hc.2
 ·rw [if_neg]
  ·exact ⟨rfl,.inl rfl⟩
  ·simp only [aG];exact fun hc=>h1 hc.1
end
def Rpl (n:Nat) (g:List Ed) (op a b v:Int) (g':List Ed):Prop:=
 g'=(if v=3 then g else (uP n g op a b).2.1)/\(1<=v/\v<=3)/\(v=(uP n g op a b).2.2\/op=4/\(v=2\/((uP n g op a b).2.2=1/\v=3)))
theorem af2 (a b:Int):(eG a b=(a,b))\/(eG a b=(b,a)):=by
 unfold eG;split
 ·exact .inl rfl
 ·exact .inr rfl
section
variable {n:Nat} {own:List Int} {cuts:List Ed} {lab:List (List Int)} {nums:List Int} {said:List Sd} {ss:List uQ} {g:List Ed} {c:Nat}
theorem Ply.split (h:Ply n own cuts lab nums said ss g c) {j0:Nat} {L:List aD} {y:An} (hs:ss[j0]?=some (L,y)) (x:Ed):x∈g↔x∈cuts\/x∈gE L\/∃(j:Nat) (M:List aD) (w:An),j≠j0/\ss[j]?=some (M,w)/\x∈gE M:=by
 rw [h.gin];constructor
 ·rintro (h1|⟨j,M,w,hj,he⟩)
  ·exact .inl h1
  ·by_cases hjj:j=j0
   ·subst hjj;rw [hs] at hj;cases hj;exact .inr (.inl he)
   ·exact .inr (.inr ⟨j,M,w,hjj,hj,he⟩)
 ·rintro (h1|h1|⟨j,M,w,_,hj,he⟩)
  ·exact .inl h1
  ·exact .inr ⟨j0,L,y,hs,h1⟩
  ·exact .inr ⟨j,M,w,hj,he⟩
theorem Ply.whole (h:Ply n own cuts lab nums said ss g c):(LC n lab cuts).1=labs n g:=by
 obtain ⟨k1,k2,k3,k4⟩:=h.k;have hn:=h.n2;have hlab:∀l,l∈lab->∃(j:Nat) (L:List aD) (y:An),ss[j]?=some (L,y)/\l=labs n (gE L)/\ShR ((j:Int)+1) n L y:=by
  intro l hl;obtain ⟨j,hj,rfl⟩:=List.mem_iff_getElem.1 hl;have hjs:j<ss.length:=by omega
  obtain ⟨s1,_,_,s4,_⟩:=h.sh j _ _ (aR hjs);refine ⟨j,_,_,aR hjs,?_,s1⟩;rw [<-s4,bN,aR hj];rfl
 have hall:lab.all (pL n)=true:=by
  rw [List.all_eq_true];intro l hl;obtain ⟨j,L,y,h1,h2,h3⟩:=hlab l hl;rw [h2];exact aoM (Qa h3)
 have hcall:cuts.all (cZ n)=true:=by
  rw [List.all_eq_true];exact h.cgr.2.2.2
 unfold LC;rw [if_pos]
 ·show labs (n:Int).toNat _=_;rw [dC];have hgin:kR n g:=fun e he=>by
   have:=eB (h.gr.2.2.2 e he);exact ⟨this.1,this.2.1,this.2.2.1,this.2.2.2.1⟩
  have hEV:kR n (lab.flatMap DL++cuts):=fun e he=>by
   rcases List.mem_append.1 he with he|he
   ·obtain ⟨l,hl,he⟩:=List.mem_flatMap.1 he;obtain ⟨j,L,y,h1,h2,h3⟩:=hlab l hl;subst h2;obtain ⟨w,g1,g2⟩:=akP he;have t1:=(iP (Qa h3)).lt g1;have t2:=(aY g1).1;rw [dD] at t2;omega
   ·exact hgin e ((h.gin e).2 (.inl he))
  refine (iP hEV).uniq (iP hgin) fun u v => ?_
  constructor
  ·refine fun hc=>hc.sub fun e he => ?_
   rcases List.mem_append.1 he with he|he
   ·obtain ⟨l,hl,he⟩:=List.mem_flatMap.1 he;obtain ⟨j,L,y,h1,h2,h3⟩:=hlab l hl;subst h2;obtain ⟨w,g1,g2⟩:=akP he;have:=((iP (Qa h3)).2 w _ g1).1;rw [g2];exact (this.mono fun x hx=>(h.gin x).2 (.inr ⟨j,L,y,h1,hx⟩)).symm
   ·exact .of ((h.gin e).2 (.inl he))
  ·refine fun hc=>hc.sub fun e he => ?_
   rcases (h.gin e).1 he with he|⟨j,L,y,hj,he⟩
   ·exact .of (List.mem_append_right _ he)
   ·obtain ⟨s1,_,_,s4,_⟩:=h.sh j L y hj;have hjl:j<lab.length:=by
     have:=(aY hj).1;omega
    have hl:labs n (gE L)∈lab:=by
     rw [<-s4,bN,aR hjl];exact List.getElem_mem hjl
    have hin:∀x,x∈DL (labs n (gE L))->x∈lab.flatMap DL++cuts:=fun x hx=>List.mem_append_left _ (List.mem_flatMap.2 ⟨_,hl,hx⟩)
    have hL:=iP (Qa s1);obtain ⟨a1,a2,a3,a4⟩:=Qa s1 e he;have i1:e.1.toNat<(labs n (gE L)).length:=by rw [dD];omega
    have i2:e.2.toNat<(labs n (gE L)).length:=by rw [dD];omega
    have g1:=getD_at i1;have g2:=getD_at i2;have hxy:=(hL.iff g1 g2).2 (by rw [Int.toNat_of_nonneg a1,Int.toNat_of_nonneg a3];exact Con.of he);have m1:=hin _ (akO g1);have m2:=hin _ (akO g2);rw [Int.toNat_of_nonneg a1] at m1;rw [Int.toNat_of_nonneg a3,<-hxy] at m2;exact (Con.of m1).symm.trans (Con.of m2)
 ·unfold wlB;rw [aC.2 (by omega),ah (by omega),hall,hcall];rfl
theorem alf (h:Ply n own cuts lab nums said ss g c) {i op a b:Int} (hi:aP i 1 100000=true) (hs:sA said i<0) :
  ∃(cuts':List Ed) (x5 x6 x7 x8 x9 x10 x11:Int) (x12:List Ed) (x13:Int) (said':List Sd) (told:Int) (g':List Ed),tkM n own cuts lab nums said i op a b=((n:Int),own,cuts',lab,nums,x5,x6,x7,x8,x9,x10,x11,x12,x13,said',told)/\Pnd n own cuts' lab nums said' ss g' (c+1) x5 x6 x7 x8 x9 x10 x11 x12 x13 /\
   ((told=1/\x9=0/\∃v,said'=said++[(i,i,op,a,b,v)]/\Rpl n g op a b v g')\/(told=2/\x9≠0/\said'=said/\g'=g/\x5=i/\x6=op/\x7=a/\x8=b)):=by
 obtain ⟨k1,k2,k3,k4⟩:=h.k;have hn:=h.n2;have hsd:∀v:Int,1<=v/\v<=3->LB (said++[(i,i,op,a,b,v)])/\(said++[(i,i,op,a,b,v)]).length<=c+1:=fun v hv=>⟨af1 h.sdo.1 hs hv,by
  have:=h.sdo.2
  simp only [bq,aX,List.length_nil]
  omega⟩
 have hmore:=h.onw (said':=said) ⟨h.sdo.1,by have:=h.sdo.2;omega⟩;unfold tkM;by_cases hr:zf n lab.length op a b=false
 ·rw [if_pos hr];obtain ⟨m1,m2⟩:=aoZ (g:=g) (show lab.length<=3 by omega) hr;refine ⟨_,_,_,_,_,_,_,_,_,_,_,_,g,rfl,.idle (h.onw (hsd 3 (by omega))),.inl ⟨rfl,rfl,3,rfl,by rw [if_pos rfl],by omega,?_⟩⟩;rcases m2 with m2|m2
  ·exact .inl m2.symm
  ·exact .inr ⟨m2.1,.inr ⟨m2.2,rfl⟩⟩
 ·rw [if_neg hr];rw [Bool.not_eq_false] at hr;unfold zf at hr;simp only [aG,aC] at hr;obtain ⟨r1,r2,r3⟩:=hr;have ha:0<=a/\a<n:=by omega
  by_cases h3:op=3
  ·rw [if_pos h3,h.whole];subst h3;rw [au (by omega),aj] at r3;simp only [aG,aC] at r3;have hb:0<=b/\b<n:=by omega
   have hm:=aoY h.gr ha hb;by_cases hl:(labs n g).getD a.toNat 0=(labs n g).getD b.toNat 0
   ·rw [if_pos hl] at hm ⊢;exact ⟨_,_,_,_,_,_,_,_,_,_,_,_,g,rfl,.idle (h.onw (hsd 1 (by omega))),.inl ⟨rfl,rfl,1,rfl,by rw [if_neg (by omega),hm],by omega,.inl (by rw [hm])⟩⟩
   ·rw [if_neg hl] at hm ⊢;exact ⟨_,_,_,_,_,_,_,_,_,_,_,_,g,rfl,.idle (h.onw (hsd 2 (by omega))),.inl ⟨rfl,rfl,2,rfl,by rw [if_neg (by omega),hm],by omega,.inl (by rw [hm])⟩⟩
  ·rw [if_neg h3];by_cases h4:op=4
   ·rw [if_pos h4];subst h4;rw [ah rfl,ai,aC] at r3;have hm:=Tf (g:=g) (b:=b) ha;by_cases ho:own.getD a.toNat 0=b
    ·rw [if_pos ho];exact ⟨_,_,_,_,_,_,_,_,_,_,_,_,g,rfl,.idle (h.onw (hsd 2 (by omega))),.inl ⟨rfl,rfl,2,rfl,by rw [if_neg (by omega),hm],by omega,.inr ⟨rfl,.inl rfl⟩⟩⟩
    ·rw [if_neg ho];have:=h.owr.2 a ha;exact ⟨_,_,_,_,_,_,_,_,_,_,_,_,g,rfl,.rel hmore hi hs ha (by omega) ho,.inr ⟨rfl,by omega,rfl,rfl,rfl,rfl,rfl,rfl⟩⟩
   ·rw [if_neg h4];rw [au h4,aj] at r3;simp only [aG,aC,Bool.not_eq_true',Bool.and_eq_false_iff,decide_eq_false_iff_not,Bool.or_eq_false_iff] at r3;have hb:0<=b/\b<n:=by omega
    have hop:op=1\/op=2:=by omega
    have hab:a≠b:=by
     rcases r3.2 with h|h
     ·exact h
     ·omega
    have hed:=O_ hn ha hb hab;unfold tkE;have hoe:(own.getD (eG a b).1.toNat 0=own.getD (eG a b).2.toNat 0↔own.getD a.toNat 0=own.getD b.toNat 0)/\(own.getD a.toNat 0=own.getD b.toNat 0->own.getD (eG a b).1.toNat 0=own.getD a.toNat 0):=by
     rcases af2 a b with h|h
     ·rw [h];exact ⟨Iff.rfl,fun _=>rfl⟩
     ·rw [h];exact ⟨⟨fun h=>h.symm,fun h=>h.symm⟩,fun h=>h.symm⟩
    by_cases hw:own.getD (eG a b).1.toNat 0=own.getD (eG a b).2.toNat 0
    ·rw [if_pos hw];have hw':=hoe.1.1 hw;rw [hoe.2 hw'];have:=h.owr.2 a ha;have hop2:(if op=2 then (2:Int) else 1)=op:=by
      rcases hop with h|h<;>subst h<;>rfl
     rw [hop2];exact ⟨_,_,_,_,_,_,_,_,_,_,_,_,g,rfl,.chg hmore hi hs hop ha hb hab hw',.inr ⟨rfl,by omega,rfl,rfl,rfl,rfl,rfl,rfl⟩⟩
    ·rw [if_neg hw];have hcg:=h.two hw;by_cases hin:eG a b∈cuts
     ·have hg':=hcg.2 hin;obtain ⟨m1,m2⟩:=XQ h.gr ha hb hab hg';rcases hop with rfl|rfl
      ·rw [ah hin,if_pos (by decide)];exact ⟨_,_,_,_,_,_,_,_,_,_,_,_,g,rfl,.idle (h.onw (hsd 2 (by omega))),.inl ⟨rfl,rfl,2,rfl,by rw [if_neg (by omega),m1],by omega,.inl (by rw [m1])⟩⟩
      ·rw [ah hin,if_neg (by decide),if_pos hin];refine ⟨_,_,_,_,_,_,_,_,_,_,_,_,del g (eG a b),rfl,.idle ⟨h.n2,h.k,h.owr,h.cgr.del,fun e he=>h.cut e (kS.1 he).1,fun j L y hj => ?_,h.gr.del,fun e => ?_,hsd 1 (by omega)⟩,.inl ⟨rfl,rfl,1,rfl,by rw [if_neg (by omega),m2],by omega,.inl (by rw [m2])⟩⟩
       ·obtain ⟨s1,s2,s3,s4,s5⟩:=h.sh j L y hj;exact ⟨s1,s2,by omega,s4,s5⟩
       ·rw [kS,kS,h.gin];constructor
        ·rintro ⟨h1|h1,h2⟩
         ·exact .inl ⟨h1,h2⟩
         ·exact .inr h1
        ·rintro (h1|⟨j,L,y,hj,he⟩)
         ·exact ⟨.inl h1.1,h1.2⟩
         ·refine ⟨.inr ⟨j,L,y,hj,he⟩,?_⟩;rintro rfl;have:=(h.sh j L y hj).2.2.2.2 _ he;exact hw (this.1.trans this.2.symm)
     ·have hg':eG a b∉g:=fun h'=>hin (hcg.1 h')
      obtain ⟨m1,m2⟩:=XP h.gr ha hb hab hg';rcases hop with rfl|rfl
      ·rw [au hin,if_neg (by decide),if_neg hin];refine ⟨_,_,_,_,_,_,_,_,_,_,_,_,ins g (eG a b),rfl,.idle ⟨h.n2,h.k,h.owr,h.cgr.ins hed,fun e he => ?_,fun j L y hj => ?_,h.gr.ins hed,fun e => ?_,hsd 1 (by omega)⟩,.inl ⟨rfl,rfl,1,rfl,by rw [if_neg (by omega),m1],by omega,.inl (by rw [m1])⟩⟩
       ·rcases jC.1 he with rfl|he
        ·exact hw
        ·exact h.cut e he
       ·obtain ⟨s1,s2,s3,s4,s5⟩:=h.sh j L y hj;exact ⟨s1,s2,by omega,s4,s5⟩
       ·rw [jC,jC,h.gin];constructor
        ·rintro (h1|h1|h1)
         ·exact .inl (.inl h1)
         ·exact .inl (.inr h1)
         ·exact .inr h1
        ·rintro ((h1|h1)|h1)
         ·exact .inl h1
         ·exact .inr (.inl h1)
         ·exact .inr (.inr h1)
      ·rw [au hin,if_pos (by decide)];exact ⟨_,_,_,_,_,_,_,_,_,_,_,_,g,rfl,.idle (h.onw (hsd 2 (by omega))),.inl ⟨rfl,rfl,2,rfl,by rw [if_neg (by omega),m2],by omega,.inl (by rw [m2])⟩⟩
end
theorem aiy (a:List Int) (ha:a.length<=1048576):∃v,Hz a=some (v,())/\0<=v/\v<=60:=by
 show ∃v,Hy BIG _=_/\_;rw [agV,au (by omega),aj];have h1:Int.tdiv (a.length:Int) 4=(a.length:Int) / 4:=Int.tdiv_eq_ediv_of_nonneg (by omega);rw [h1,wr (n:=(a.length:Int) / 4) (by omega) (by omega),wr (n:=12+(a.length:Int) / 4) (by omega) (by omega)];by_cases h:(60:Int)<12+(a.length:Int) / 4
 ·rw [ah h];exact ⟨60,rfl,by omega,by omega⟩
 ·rw [au h];exact ⟨_,rfl,by omega,by omega⟩
theorem Rp {x:Ed}:∀(es c:List Ed),x∈es.foldl ins c↔x∈c\/x∈es
 | [],c=>by simp
 | e::es,c=>by
  rw [List.foldl_cons,Rp es,jC,List.mem_cons];constructor
  ·rintro ((h|h)|h)
   ·exact .inr (.inl h)
   ·exact .inl h
   ·exact .inr (.inr h)
  ·rintro (h|h|h)
   ·exact .inl (.inr h)
   ·exact .inl (.inl h)
   ·exact .inr h
theorem Wm {n:Int}:∀(es c:List Ed),GrOk n c->(∀e,e∈es->cZ n e=true)->GrOk n (es.foldl ins c)
 | [],c,h,_=>h
 | e::es,c,h,he=>Wm es (ins c e) (h.ins (he e (List.mem_cons_self ..))) fun x hx=>he x (List.mem_cons_of_mem _ hx)
theorem mf {x:Ed}:∀(es c:List Ed),x∈es.foldl del c↔x∈c/\x∉es
 | [],c=>by simp
 | e::es,c=>by
  rw [List.foldl_cons,mf es,kS,List.mem_cons];constructor
  ·rintro ⟨⟨h1,h2⟩,h3⟩;exact ⟨h1,fun h=>h.elim h2 h3⟩
  ·rintro ⟨h1,h2⟩;exact ⟨⟨h1,fun h=>h2 (.inl h)⟩,fun h=>h2 (.inr h)⟩
theorem KI {n:Int}:∀(es c:List Ed),GrOk n c->GrOk n (es.foldl del c)
 | [],c,h=>h
 | e::es,c,h=>KI es (del c e) h.del
theorem alg {own:List Int} {n:Nat} (hl:own.length=n) {b:Int} {x:Ed} (hx:cZ n x=true):SN own b x=true↔own.getD x.1.toNat 0=b/\own.getD x.2.toNat 0=b:=by
 have hr:=eB hx;have g:∀v:Int,0<=v/\v<n->own[v.toNat]?=some (own.getD v.toNat 0):=fun v hv=>by
  have:v.toNat<own.length:=by omega
  rw [bN,aR this];rfl
 unfold SN;rw [g _ ⟨hr.1,hr.2.1⟩,g _ ⟨hr.2.2.1,hr.2.2.2.1⟩,ah hr.1,ah hr.2.2.1,ah (show x.1<own.length by omega),ah (show x.2<own.length by omega)];simp
theorem Dne.labs {n:Nat} {L L':List aD} {o:kg} {z:An} (h:Dne n L L' o z) {x0:Int} (hR:ShR x0 n L' z):z.2.2.2=Go.Fw.labs n (gE L'):=h.lab.trans hR.web.labs
section
variable {n:Nat} {own:List Int} {cuts:List Ed} {lab:List (List Int)} {nums:List Int} {said:List Sd} {ss:List uQ} {g:List Ed} {c:Nat} {x5 x6 x7 x8 x9 x10 x11:Int} {x12:List Ed} {x13:Int}
theorem Ply.own_at (h:Ply n own cuts lab nums said ss g c) {a b:Int} (ha:0<=a/\a<n) (hb:1<=b/\b<=ss.length) :
  (∀v:Int,0<=v/\v<n->(own.set a.toNat b).getD v.toNat 0=if v=a then b else own.getD v.toNat 0)/\(own.set a.toNat b).length=n/\∀v:Int,0<=v/\v<n->1<=(own.set a.toNat b).getD v.toNat 0/\(own.set a.toNat b).getD v.toNat 0<=ss.length:=by
 have hl:=h.owr.1;have h0:∀v:Int,0<=v/\v<n->(own.set a.toNat b).getD v.toNat 0=if v=a then b else own.getD v.toNat 0:=by
  intro v hv;rw [CS _ _ _ _ _ (by omega)];by_cases hva:v=a
  ·rw [if_pos (by rw [hva]),if_pos hva]
  ·rw [if_neg (by omega),if_neg hva]
 refine ⟨h0,by rw [mg];exact hl,fun v hv => ?_⟩;rw [h0 v hv];split
 ·exact hb
 ·exact h.owr.2 v hv
theorem alh (h:Pnd n own cuts lab nums said ss g c x5 x6 x7 x8 x9 x10 x11 x12 x13) (h9:x9≠0) (h1:1<=x9) {L L':List aD} {y z:An} (hs:ss[(x9-1).toNat]?=some (L,y)) (hnum:x10=y.1+1) (hR:ShR x9 n L' z) (hD:Dne n L L' (x10,x11,x12,x13) z) :
  ∃(own':List Int) (cuts':List Ed) (t5 t6 t7 t8 t9 t10 t11:Int) (t12:List Ed) (t13:Int) (said':List Sd) (told:Int) (g':List Ed),
   heM n own cuts (lab.set (x9-1).toNat z.2.2.2) (nums.set (x9-1).toNat z.1) said x5 x6 x7 x8 x11 z.2.1 z.2.2.1=((n:Int),own',cuts',lab.set (x9-1).toNat z.2.2.2,nums.set (x9-1).toNat z.1,t5,t6,t7,t8,t9,t10,t11,t12,t13,said',told) /\
   Pnd n own' cuts' (lab.set (x9-1).toNat z.2.2.2) (nums.set (x9-1).toNat z.1) said' (ss.set (x9-1).toNat (L',z)) g' (c+1) t5 t6 t7 t8 t9 t10 t11 t12 t13 /\
   ((told=1/\t9=0/\∃v,said'=said++[(x5,x5,x6,x7,x8,v)]/\Rpl n g x6 x7 x8 v g')\/(told=2/\t9≠0/\said'=said/\g'=g/\t5=x5/\t6=x6/\t7=x7/\t8=x8/\x11=3/\t11=4)):=by
 have hz:z.1=y.1+1:=hD.num.trans hnum;have hl:=hD.labs hR;have sd:∀{g'} (hP:Ply n own cuts lab nums said ss g' c) (hsa:sA said x5<0) (v:Int),1<=v/\v<=3->LB (said++[(x5,x5,x6,x7,x8,v)])/\(said++[(x5,x5,x6,x7,x8,v)]).length<=c+1:=fun hP hsa v hv=>⟨af1 hP.sdo.1 hsa hv,by
  have:=hP.sdo.2
  simp only [bq,aX,List.length_nil]
  omega⟩
 cases h with
 | idle h=>exact absurd rfl h9
 | chg h hi hsa ho ha hb hab hw=>
  have hn:=h.n2;obtain ⟨hL,hy⟩:=h.sh _ _ _ hs;have hsc:(((own.getD x7.toNat 0-1).toNat:Nat):Int)+1=own.getD x7.toNat 0:=by omega
  have hed:=O_ hn ha hb hab;have hoe:own.getD (eG x7 x8).1.toNat 0=own.getD x7.toNat 0/\own.getD (eG x7 x8).2.toNat 0=own.getD x7.toNat 0:=by
   rcases af2 x7 x8 with h'|h'
   ·rw [h'];exact ⟨rfl,hw.symm⟩
   ·rw [h'];exact ⟨hw.symm,rfl⟩
  have hone:=h.one hoe.1 hoe.2 hs h1;have hown:∀e,e∈gE L->own.getD e.1.toNat 0=own.getD x7.toNat 0/\own.getD e.2.toNat 0=own.getD x7.toNat 0:=fun e he=>by
   have:=hy.2.2.2 e he;rw [hsc] at this;exact this
  have hoth:∀(j:Nat) (M:List aD) (w:An),j≠(own.getD x7.toNat 0-1).toNat->ss[j]?=some (M,w)->∀e,e∈gE M->own.getD e.1.toNat 0=(j:Int)+1/\own.getD e.2.toNat 0=(j:Int)+1:=fun j M w _ hj e he=>(h.sh j M w hj).2.2.2.2 e he
  have hne:∀(j:Nat) (M:List aD) (w:An),j≠(own.getD x7.toNat 0-1).toNat->ss[j]?=some (M,w)->eG x7 x8∉gE M:=fun j M w hj hm hin=>by
   have:=hoth j M w hj hm _ hin;omega
  have hnc:eG x7 x8∉cuts:=fun hin=>h.cut _ hin (hoe.1.trans hoe.2.symm)
  unfold heM;rw [if_neg (by omega)];rcases ho with rfl|rfl
  ·obtain ⟨d1,_,_,d4⟩:=hD.add (.inl rfl);have d4:=d4 _ rfl;have hLo:∀e,e∈gE L'->own.getD e.1.toNat 0=own.getD x7.toNat 0/\own.getD e.2.toNat 0=own.getD x7.toNat 0:=fun e he=>by
    rcases (d1 e).1 he with he|he
    ·exact hown e he
    ·rw [List.mem_singleton.1 he];exact hoe
   by_cases hin:eG x7 x8∈gE L
   ·obtain ⟨m1,_⟩:=XQ h.gr ha hb hab (hone.2 hin);rw [ah hin] at d4;rw [d4];refine ⟨_,_,_,_,_,_,_,_,_,_,_,_,_,g,rfl,.idle (h.upd h1 hs hR hz hl h.owr h.cgr h.cut hLo hoth h.gr (fun e => ?_) (sd h hsa 2 (by omega))),.inl ⟨rfl,rfl,2,rfl,by rw [if_neg (by omega),m1],by omega,.inl (by rw [m1])⟩⟩;rw [h.split hs,d1];constructor
    ·rintro (h|h|h)
     ·exact .inl h
     ·exact .inr (.inl (.inl h))
     ·exact .inr (.inr h)
    ·rintro (h | (h|h)|h)
     ·exact .inl h
     ·exact .inr (.inl h)
     ·rw [List.mem_singleton.1 h];exact .inr (.inl hin)
     ·exact .inr (.inr h)
   ·have hg':eG x7 x8∉g:=fun h'=>hin (hone.1 h')
    obtain ⟨m1,_⟩:=XP h.gr ha hb hab hg';rw [au hin] at d4;rw [d4];refine ⟨_,_,_,_,_,_,_,_,_,_,_,_,_,ins g (eG x7 x8),rfl,.idle (h.upd h1 hs hR hz hl h.owr h.cgr h.cut hLo hoth (h.gr.ins hed) (fun e => ?_) (sd h hsa 1 (by omega))),.inl ⟨rfl,rfl,1,rfl,by rw [if_neg (by omega),m1],by omega,.inl (by rw [m1])⟩⟩;rw [jC,h.split hs,d1];constructor
    ·rintro (h|h|h|h)
     ·exact .inr (.inl (.inr (List.mem_singleton.2 h)))
     ·exact .inl h
     ·exact .inr (.inl (.inl h))
     ·exact .inr (.inr h)
    ·rintro (h | (h|h)|h)
     ·exact .inr (.inl h)
     ·exact .inr (.inr (.inl h))
     ·exact .inl (List.mem_singleton.1 h)
     ·exact .inr (.inr (.inr h))
  ·obtain ⟨e',q1,q2,q3,_⟩:=hD.take rfl;have q0:e'=eG x7 x8:=by
    have:[eG x7 x8]=[e']:=q1;simp only [List.cons.injEq,and_true] at this;exact this.symm
   subst q0;have hLo:∀e,e∈gE L'->own.getD e.1.toNat 0=own.getD x7.toNat 0/\own.getD e.2.toNat 0=own.getD x7.toNat 0:=fun e he=>by
    rw [q2,kS] at he;exact hown e he.1
   by_cases hin:eG x7 x8∈gE L
   ·obtain ⟨_,m1⟩:=XQ h.gr ha hb hab (hone.2 hin);rw [ah hin] at q3;rw [q3];refine ⟨_,_,_,_,_,_,_,_,_,_,_,_,_,del g (eG x7 x8),rfl,.idle (h.upd h1 hs hR hz hl h.owr h.cgr h.cut hLo hoth h.gr.del (fun e => ?_) (sd h hsa 1 (by omega))),.inl ⟨rfl,rfl,1,rfl,by rw [if_neg (by omega),m1],by omega,.inl (by rw [m1])⟩⟩;rw [kS,h.split hs,q2,kS];constructor
    ·rintro ⟨h|h|h,h'⟩
     ·exact .inl h
     ·exact .inr (.inl ⟨h,h'⟩)
     ·exact .inr (.inr h)
    ·rintro (h|h|h)
     ·exact ⟨.inl h,by rintro rfl;exact hnc h⟩
     ·exact ⟨.inr (.inl h.1),h.2⟩
     ·refine ⟨.inr (.inr h),?_⟩;obtain ⟨j,M,w,hj,hm,he⟩:=h;rintro rfl;exact hne j M w hj hm he
   ·have hg':eG x7 x8∉g:=fun h'=>hin (hone.1 h')
    obtain ⟨_,m1⟩:=XP h.gr ha hb hab hg';rw [au hin] at q3;rw [q3];refine ⟨_,_,_,_,_,_,_,_,_,_,_,_,_,g,rfl,.idle (h.upd h1 hs hR hz hl h.owr h.cgr h.cut hLo hoth h.gr (fun e => ?_) (sd h hsa 2 (by omega))),.inl ⟨rfl,rfl,2,rfl,by rw [if_neg (by omega),m1],by omega,.inl (by rw [m1])⟩⟩;rw [h.split hs,q2,kS];constructor
    ·rintro (h|h|h)
     ·exact .inl h
     ·exact .inr (.inl ⟨h,by rintro rfl;exact hin h⟩)
     ·exact .inr (.inr h)
    ·rintro (h|h|h)
     ·exact .inl h
     ·exact .inr (.inl h.1)
     ·exact .inr (.inr h)
 | rel h hi hsa ha hb hw=>
  have hn:=h.n2;obtain ⟨hL,hy⟩:=h.sh _ _ _ hs;have hsc:(((own.getD x7.toNat 0-1).toNat:Nat):Int)+1=own.getD x7.toNat 0:=by omega
  obtain ⟨d1,_,d3,_⟩:=hD.rel rfl;have hown:∀e,e∈gE L->own.getD e.1.toNat 0=own.getD x7.toNat 0/\own.getD e.2.toNat 0=own.getD x7.toNat 0:=fun e he=>by
   have:=hy.2.2.2 e he;rw [hsc] at this;exact this
  have hLe:∀e,e∈gE L->cZ n e=true:=(ji hL.web.gr).1;have hges:∀x,x∈z.2.2.1↔x∈gE L/\(x.1=x7\/x.2=x7):=fun x=>by
   rw [d3,List.mem_filter];unfold xK;rw [decide_eq_true_eq]
  have hgL':∀x,x∈gE L'↔x∈gE L/\¬(x.1=x7\/x.2=x7):=fun x=>by
   rw [d1];unfold xK;rw [decide_eq_false_iff_not]
  have hgin:∀x,x∈g->cZ n x=true:=h.gr.2.2.2;have hCm:∀x,x∈qD cuts z.2.2.1↔x∈cuts\/x∈z.2.2.1:=fun x=>Rp _ _
  have hCg:∀x,x∈qD cuts z.2.2.1->x∈g:=fun x hx=>by
   rw [h.split hs];rcases (hCm x).1 hx with hx|hx
   ·exact .inl hx
   ·exact .inr (.inl ((hges x).1 hx).1)
  have hCgr:GrOk n (qD cuts z.2.2.1):=Wm _ _ h.cgr fun e he=>hLe e ((hges e).1 he).1
  obtain ⟨o1,o2,o3⟩:=h.own_at ha hb;have hIm:∀x,x∈mq own cuts z.2.2.1 x7 x8↔x∈qD cuts z.2.2.1/\(own.set x7.toNat x8).getD x.1.toNat 0=x8/\(own.set x7.toNat x8).getD x.2.toNat 0=x8:=fun x=>by
   unfold mq;rw [List.mem_filter];constructor
   ·rintro ⟨p1,p2⟩;exact ⟨p1,(alg o2 (hgin x (hCg x p1))).1 p2⟩
   ·rintro ⟨p1,p2⟩;exact ⟨p1,(alg o2 (hgin x (hCg x p1))).2 p2⟩
  have hIg:∀x,x∈mq own cuts z.2.2.1 x7 x8->x∈g:=fun x hx=>hCg x ((hIm x).1 hx).1
  have hIgr:GrOk n (mq own cuts z.2.2.1 x7 x8):=⟨hCgr.1,hCgr.2.1,hCgr.2.2.1.filter _,fun e he=>hCgr.2.2.2 e ((hIm e).1 he).1⟩
  have hdis:∀e,e∈z.2.2.1->e∉cuts:=fun e he hc=>by
   have:=hown e ((hges e).1 he).1;exact h.cut e hc (this.1.trans this.2.symm)
  have hset:∀x:Ed,cZ n x=true->x.1≠x7/\x.2≠x7->(own.set x7.toNat x8).getD x.1.toNat 0=own.getD x.1.toNat 0/\(own.set x7.toNat x8).getD x.2.toNat 0=own.getD x.2.toNat 0:=fun x hx hne=>by
   have hr:=eB hx;rw [o1 _ ⟨hr.1,hr.2.1⟩,o1 _ ⟨hr.2.2.1,hr.2.2.2.1⟩,if_neg hne.1,if_neg hne.2];exact ⟨rfl,rfl⟩
  have hP:∀{said':List Sd},LB said'/\said'.length<=c+1->Ply n (own.set x7.toNat x8) ((mq own cuts z.2.2.1 x7 x8).foldl del (qD cuts z.2.2.1)) (lab.set (own.getD x7.toNat 0-1).toNat z.2.2.2) (nums.set (own.getD x7.toNat 0-1).toNat z.1) said' (ss.set (own.getD x7.toNat 0-1).toNat (L',z)) ((mq own cuts z.2.2.1 x7 x8).foldl del g) (c+1):=by
   intro said' hsd;have hothm:∀(j:Nat) (M:List aD) (w:An),j≠(own.getD x7.toNat 0-1).toNat->ss[j]?=some (M,w)->∀e,e∈gE M->cZ n e=true/\(own.getD e.1.toNat 0=(j:Int)+1/\own.getD e.2.toNat 0=(j:Int)+1)/\e.1≠x7/\e.2≠x7:=fun j M w hj hm e he=>by
    obtain ⟨s1,_,_,_,s5⟩:=h.sh j M w hm;have:=s5 e he;refine ⟨(ji s1.web.gr).1 e he,this,fun hc => ?_,fun hc => ?_⟩
    ·rw [hc] at this;omega
    ·rw [hc] at this;omega
   refine h.upd h1 hs hR hz hl ⟨o2,o3⟩ (KI _ _ hCgr) (fun e he => ?_) (fun e he => ?_) (fun j M w hj hm e he => ?_) (KI _ _ h.gr) (fun e => ?_) hsd
   ·obtain ⟨p1,p2⟩:=(mf _ _).1 he;intro heq;have hb':=hgin e (hCg e p1);have hr:=eB hb';have hI:(own.set x7.toNat x8).getD e.1.toNat 0≠x8:=fun h'=>p2 ((hIm e).2 ⟨p1,h',heq▸h'⟩)
    have e1:=o1 _ (show 0<=e.1/\e.1<(n:Int) from ⟨hr.1,hr.2.1⟩);have e2:=o1 _ (show 0<=e.2/\e.2<(n:Int) from ⟨hr.2.2.1,hr.2.2.2.1⟩);by_cases h1':e.1=x7
    ·rw [if_pos h1'] at e1;exact hI e1
    ·by_cases h2':e.2=x7
     ·rw [if_pos h2'] at e2;exact hI (heq.trans e2)
     ·rw [if_neg h1'] at e1;rw [if_neg h2'] at e2;rw [e1,e2] at heq;rcases (hCm e).1 p1 with p1|p1
      ·exact h.cut e p1 heq
      ·rcases ((hges e).1 p1).2 with h'|h'
       ·exact h1' h'
       ·exact h2' h'
   ·obtain ⟨p1,p2⟩:=(hgL' e).1 he;have:=hset e (hLe e p1) ⟨fun h'=>p2 (.inl h'),fun h'=>p2 (.inr h')⟩;rw [this.1,this.2];exact hown e p1
   ·obtain ⟨p0,p1,p2⟩:=hothm j M w hj hm e he;have:=hset e p0 p2;rw [this.1,this.2];exact p1
   ·rw [mf,mf,hCm,h.split hs];constructor
    ·rintro ⟨p|p|p,p'⟩
     ·exact .inl ⟨.inl p,p'⟩
     ·by_cases hv:e.1=x7\/e.2=x7
      ·exact .inl ⟨.inr ((hges e).2 ⟨p,hv⟩),p'⟩
      ·exact .inr (.inl ((hgL' e).2 ⟨p,hv⟩))
     ·exact .inr (.inr p)
    ·rintro (⟨p|p,p'⟩|p|p)
     ·exact ⟨.inl p,p'⟩
     ·exact ⟨.inr (.inl ((hges e).1 p).1),p'⟩
     ·obtain ⟨p1,p2⟩:=(hgL' e).1 p;refine ⟨.inr (.inl p1),fun hI => ?_⟩;have:=hset e (hLe e p1) ⟨fun h'=>p2 (.inl h'),fun h'=>p2 (.inr h')⟩;have h3:=((hIm e).1 hI).2.1;rw [this.1,(hown e p1).1] at h3;exact hw h3
     ·refine ⟨.inr (.inr p),fun hI => ?_⟩;obtain ⟨j,M,w,hj,hm,he⟩:=p;obtain ⟨p0,p1,p2⟩:=hothm j M w hj hm e he;rcases (hCm e).1 ((hIm e).1 hI).1 with p|p
      ·exact h.cut e p (p1.1.trans p1.2.symm)
      ·rcases ((hges e).1 p).2 with h'|h'
       ·exact p2.1 h'
       ·exact p2.2 h'
  unfold heM;rw [if_pos rfl,if_pos rfl];unfold XL;rw [if_pos hdis];by_cases h0:(mq own cuts z.2.2.1 x7 x8).length=0
  ·rw [if_pos h0];have h0':=List.length_eq_zero_iff.1 h0;have hm:=Tf (g:=g) (b:=x8) ha;rw [if_pos (aC.2 (by have:=h.k;omega))] at hm;have:=hP (sd h hsa 1 (by omega));rw [h0'] at this;exact ⟨_,_,_,_,_,_,_,_,_,_,_,_,_,g,rfl,.idle this,.inl ⟨rfl,rfl,1,rfl,by rw [if_neg (by omega),hm],by omega,.inl (by rw [hm])⟩⟩
  ·rw [if_neg h0];refine ⟨_,_,_,_,_,_,_,_,_,_,_,_,_,g,rfl,.acc (hP (said':=said) ⟨h.sdo.1,by have:=h.sdo.2;omega⟩) hi hsa ha (by rw [mg];exact hb) ⟨hIgr,fun h'=>h0 (by rw [h'];rfl)⟩ (fun e he => ?_) h.gr (fun e => ?_),.inr ⟨rfl,by omega,rfl,rfl,rfl,rfl,rfl,rfl,rfl,rfl⟩⟩
   ·have:=(hIm e).1 he;exact ⟨this.2.1,this.2.2,fun h'=>((mf _ _).1 h').2 he⟩
   ·rw [mf];constructor
    ·intro he;by_cases hI:e∈mq own cuts z.2.2.1 x7 x8
     ·exact .inr hI
     ·exact .inl ⟨he,hI⟩
    ·rintro (he|he)
     ·exact he.1
     ·exact hIg e he
 | acc h hi hsa ha hb hes hin hgr hg=>
  obtain ⟨hL,hy⟩:=h.sh _ _ _ hs;have hsc:(((x8-1).toNat:Nat):Int)+1=x8:=by omega
  obtain ⟨d1,_,_,_⟩:=hD.add (.inr rfl);have hm:=Tf (g:=g) (b:=x8) ha;rw [if_pos (aC.2 (by have:=h.k;omega))] at hm;unfold heM;rw [if_pos rfl,if_neg (by omega)];refine ⟨_,_,_,_,_,_,_,_,_,_,_,_,_,g,rfl,.idle (h.upd h1 hs hR hz hl h.owr h.cgr h.cut (fun e he => ?_) (fun j M w _ hj e he=>(h.sh j M w hj).2.2.2.2 e he) hgr (fun e => ?_) (sd h hsa 1 (by omega))),.inl ⟨rfl,rfl,1,rfl,by rw [if_neg (by omega),hm],by omega,.inl (by rw [hm])⟩⟩
  ·rcases (d1 e).1 he with he|he
   ·have:=hy.2.2.2 e he;rw [hsc] at this;exact this
   ·exact ⟨(hin e he).1,(hin e he).2.1⟩
  ·rw [hg,h.split hs,d1];constructor
   ·rintro ((h|h|h)|h)
    ·exact .inl h
    ·exact .inr (.inl (.inl h))
    ·exact .inr (.inr h)
    ·exact .inr (.inl (.inr h))
   ·rintro (h | (h|h)|h)
    ·exact .inl (.inl h)
    ·exact .inl (.inr (.inl h))
    ·exact .inr h
    ·exact .inl (.inr (.inr h))
end
def mst (n:Int) (g:List Ed) (s:Sd):List Ed:=if s.2.2.2.2.2=3 then g else (uP n g s.2.2.1 s.2.2.2.1 s.2.2.2.2.1).2.1
def shO (h:Hd):Int:=h.2.2.2.2.2.2.2.2.2.1
def Pb (h:Hd):List Sd:=h.2.2.2.2.2.2.2.2.2.2.2.2.2.2
def orO (h:Hd):kg:=(h.2.2.2.2.2.2.2.2.2.2.1,h.2.2.2.2.2.2.2.2.2.2.2.1,h.2.2.2.2.2.2.2.2.2.2.2.2.1,h.2.2.2.2.2.2.2.2.2.2.2.2.2.1)
def qO (h:Hd):Int × Int × Int × Int:=(h.2.2.2.2.2.1,h.2.2.2.2.2.2.1,h.2.2.2.2.2.2.2.1,h.2.2.2.2.2.2.2.2.1)
abbrev flI (h:Hd) (t:Int):LD:=(h.1,h.2.1,h.2.2.1,h.2.2.2.1,h.2.2.2.2.1,h.2.2.2.2.2.1,h.2.2.2.2.2.2.1,h.2.2.2.2.2.2.2.1,h.2.2.2.2.2.2.2.2.1,h.2.2.2.2.2.2.2.2.2.1,h.2.2.2.2.2.2.2.2.2.2.1,h.2.2.2.2.2.2.2.2.2.2.2.1,h.2.2.2.2.2.2.2.2.2.2.2.2.1,h.2.2.2.2.2.2.2.2.2.2.2.2.2.1,h.2.2.2.2.2.2.2.2.2.2.2.2.2.2,t)
inductive HP (n:Nat):Hd->List uQ->List Ed->Nat->Prop
 | mk {own:List Int} {cuts:List Ed} {lab:List (List Int)} {nums:List Int} {said:List Sd} {ss:List uQ} {g:List Ed} {c:Nat} {x5 x6 x7 x8 x9 x10 x11:Int} {x12:List Ed} {x13:Int}
   (hp:Pnd n own cuts lab nums said ss g c x5 x6 x7 x8 x9 x10 x11 x12 x13) (hf:said.foldl (mst n) []=g) (hc:c<=80):HP n ((n:Int),own,cuts,lab,nums,x5,x6,x7,x8,x9,x10,x11,x12,x13,said) ss g c
section
variable {n:Nat} {own:List Int} {cuts:List Ed} {lab:List (List Int)} {nums:List Int} {said:List Sd} {ss:List uQ} {g:List Ed} {c:Nat} {x5 x6 x7 x8 x9 x10 x11:Int} {x12:List Ed} {x13:Int}
theorem Ply.up (h:Ply n own cuts lab nums said ss g c):Ply n own cuts lab nums said ss g (c+1):=h.onw ⟨h.sdo.1,by have:=h.sdo.2;omega⟩
theorem Pnd.up (h:Pnd n own cuts lab nums said ss g c x5 x6 x7 x8 x9 x10 x11 x12 x13):Pnd n own cuts lab nums said ss g (c+1) x5 x6 x7 x8 x9 x10 x11 x12 x13:=by
 cases h with
 | idle h=>exact .idle h.up
 | chg h hi hs ho ha hb hab hw=>exact .chg h.up hi hs ho ha hb hab hw
 | rel h hi hs ha hb hw=>exact .rel h.up hi hs ha hb hw
 | acc h hi hs ha hb hes hin hgr hg=>exact .acc h.up hi hs ha hb hes hin hgr hg
theorem Pnd.x12l (h:Pnd n own cuts lab nums said ss g c x5 x6 x7 x8 x9 x10 x11 x12 x13):x12.length<=66:=by
 cases h with
 | idle h=>simp
 | chg h hi hs ho ha hb hab hw=>simp
 | rel h hi hs ha hb hw=>simp
 | acc h hi hs ha hb hes hin hgr hg=>exact O9 hes.1
theorem Ply.sz (h:Ply n own cuts lab nums said ss g c) (hc:c<=80) (hx:x12.length<=66):HdS ((n:Int),own,cuts,lab,nums,x5,x6,x7,x8,x9,x10,x11,x12,x13,said):=by
 obtain ⟨k1,k2,k3,k4⟩:=h.k;have hn:=h.n2;have hcl:=O9 h.cgr;have hol:=h.owr.1;have hsl:=h.sdo.2;refine ⟨by show own.length<=12;omega,by show cuts.length<=132;omega,⟨by show lab.length<=3;omega,fun y hy => ?_⟩,by show nums.length<=3;omega,by show x12.length<=132;omega,by show said.length<=81;omega⟩;obtain ⟨j,hj,rfl⟩:=List.mem_iff_getElem.1 (show y∈lab from hy);have hjs:j<ss.length:=by omega
 obtain ⟨_,_,_,s4,_⟩:=h.sh j _ _ (aR hjs);rw [bN,aR hj] at s4;have s4:lab[j]=_:=s4;rw [s4,dD];omega
theorem HP.sz {h:Hd} (hp:HP n h ss g c):HdS h:=by
 cases hp with
 | mk hp hf hc=>
  obtain ⟨g',hP⟩:=hp.ply;exact hP.sz hc hp.x12l
theorem HP.up {h:Hd} (hp:HP n h ss g c) (hc:c<80):HP n h ss g (c+1):=by
 cases hp with
 | mk hp hf _=>exact .mk hp.up hf (by omega)
theorem HP.len {h:Hd} (hp:HP n h ss g c):h.1=n/\(2<=n/\n<=12)/\(1<=ss.length/\ss.length<=3)/\h.2.2.2.1.length=ss.length/\GrOk n g/\(Pb h).foldl (mst n) []=g/\(Pb h).length<=c/\c<=80:=by
 cases hp with
 | mk hp hf hc=>
  obtain ⟨g',hP⟩:=hp.ply;have hk:=hP.k;refine ⟨rfl,hP.n2,⟨hk.1,hk.2.1⟩,hk.2.2.1,?_,hf,hP.sdo.2,hc⟩;cases hp with
  | idle h=>exact h.gr
  | chg h=>exact h.gr
  | rel h=>exact h.gr
  | acc h hi hs ha hb hes hin hgr hg=>exact hgr
theorem ada {op a b v i:Int} {g':List Ed} (hf:said.foldl (mst n) []=g) (h:Rpl n g op a b v g'):(said++[(i,i,op,a,b,v)]).foldl (mst n) []=g':=by
 rw [List.foldl_append,hf];exact h.1.symm
theorem HP.take {h:Hd} (hp:HP n h ss g c) (hc:c<80) (i op a b:Int):∃(h':Hd) (told:Int) (g':List Ed),tkU h i op a b=flI h' told/\HP n h' ss g' (c+1) /\
  ((told=0/\h'=h/\g'=g)\/sA (Pb h) i<0/\shO h=0/\((told=1/\shO h'=0/\∃v,Pb h'=Pb h++[(i,i,op,a,b,v)]/\Rpl n g op a b v g')\/(told=2/\shO h'≠0/\Pb h'=Pb h/\g'=g/\qO h'=(i,op,a,b)))):=by
 have hup:=hp.up hc;cases hp with
 | @mk own cuts lab nums said _ _ _ x5 x6 x7 x8 x9 x10 x11 x12 x13 hp hf hc'=>
  show ∃(h':Hd) (told:Int) (g':List Ed),tkR (n:Int) own cuts lab nums x5 x6 x7 x8 x9 x10 x11 x12 x13 said i op a b=_/\_;unfold tkR;by_cases hok:O1 (n:Int) own cuts lab nums x5 x6 x7 x8 x9 x10 x11 x12 x13 said i=true
  ·rw [if_pos hok];obtain ⟨_,z5,_,_,_,z9,_⟩:=afO hok;unfold O1 at hok;simp only [aG,decide_eq_true_eq,Bool.not_eq_true',decide_eq_false_iff_not] at hok;obtain ⟨_,hi,hsa,_,_⟩:=hok;have hP:Ply n own cuts lab nums said ss g c:=by
    cases hp with
    | idle h=>exact h
    | chg h hi'=>rw [z5] at hi';exact absurd hi' (by decide)
    | rel h hi'=>rw [z5] at hi';exact absurd hi' (by decide)
    | acc h hi'=>rw [z5] at hi';exact absurd hi' (by decide)
   obtain ⟨cuts',t5,t6,t7,t8,t9,t10,t11,t12,t13,said',told,g',e1,e2,e3⟩:=alf (op:=op) (a:=a) (b:=b) hP hi (by omega);rw [e1];refine ⟨((n:Int),own,cuts',lab,nums,t5,t6,t7,t8,t9,t10,t11,t12,t13,said'),told,g',rfl,.mk e2 ?_ (by omega),.inr ⟨by show sA said i<0;omega,z9,?_⟩⟩
   ·rcases e3 with ⟨_,_,v,rfl,hr⟩|⟨_,_,rfl,rfl,_⟩
    ·exact ada hf hr
    ·exact hf
   ·rcases e3 with ⟨r1,r2,v,r3,hr⟩|⟨r1,r2,r3,r4,r5,r6,r7,r8⟩
    ·exact .inl ⟨r1,r2,v,r3,hr⟩
    ·exact .inr ⟨r1,r2,r3,r4,by show (t5,t6,t7,t8)=_;rw [r5,r6,r7,r8]⟩
  ·rw [if_neg hok];exact ⟨_,0,g,rfl,hup,.inl ⟨rfl,rfl,rfl⟩⟩
end
theorem alj {n k:Nat} (hk:1<=k) (v:Int) (hv:0<=v/\v<n):1<=(OO n k).getD v.toNat 0/\(OO n k).getD v.toNat 0<=k:=by
 rw [gD (aoL (k:=k) (show v.toNat<n by omega))];have:=Nat.mod_lt v.toNat (show k > 0 from by omega);omega
theorem HP.new {n k:Nat} (h2:2<=n) (h12:n<=12) (h1:1<=k) (h3:k<=3):HP n (hdN n k) (List.replicate k ([],(0,false,[],[]))) [] 0:=by
 refine .mk (.idle ⟨⟨h2,h12⟩,by simp only [List.length_replicate];exact ⟨h1,h3,trivial,trivial⟩,⟨amk n k,fun v hv=>by rw [List.length_replicate];exact alj h1 v hv⟩,ac9 ⟨h2,h12⟩,fun e he=>(by cases he),fun j L y hj => ?_,ac9 ⟨h2,h12⟩,fun e => ?_,⟨fun j hj=>absurd hj (by simp),by simp⟩⟩) rfl (by omega)
 ·have hjl:=(aY hj).1;rw [List.length_replicate] at hjl;have:=List.mem_of_getElem? hj;rw [List.mem_replicate] at this;cases this.2;refine ⟨aqC (by omega) (by omega) h12,?_,by simp,?_,fun e he=>by cases he⟩
  ·rw [bN,List.getElem?_replicate,if_pos hjl];rfl
  ·rw [bN,List.getElem?_replicate,if_pos hjl];rfl
 ·constructor
  ·intro h;cases h
  ·rintro (h|⟨j,L,y,hj,he⟩)
   ·cases h
   ·have:=List.mem_of_getElem? hj;rw [List.mem_replicate] at this;cases this.2;cases he
theorem Pd (c:iZ) (hc:bR c) (n k i:Int) (hn:n<=1000000) (hk:k<=1000000):∃op a b c',xn (c,n,k,i)=some ((i,op,a,b),c')/\bR c':=by
 show ∃op a b c',MO BIG _=_/\_;rw [ajU];obtain ⟨r0,c0,k0,o0⟩:=dh c [1,1,1,1,2,2,3,3,4] hc (by simp) (by simp);obtain ⟨r1,c1,k1,o1,_⟩:=bF c0 n o0 hn;obtain ⟨r2,c2,k2,o2,_⟩:=bF c1 n o1 hn;rw [k0,aa];simp only;rw [k1,aa];simp only;rw [k2,aa];simp only;have hx:∃c3 op a b,(bif decide (r0=(4:Int)) then Option.bind (bv (c2,k)) fun r3=>some (r3.2,(i,r0,r1,IntKind.wrap .i64 ((1:Int)+r3.1))) else some (c2,(i,r0,r1,r2)):Option (iZ × (Int × Int × Int × Int)))=some (c3,(i,op,a,b))/\bR c3:=by
  by_cases h:r0=4
  ·obtain ⟨r3,c3,k3,o3,_⟩:=bF c2 k o2 hk;rw [ah h,ai,k3,aa];exact ⟨_,_,_,_,rfl,o3⟩
  ·rw [au h,aj];exact ⟨_,_,_,_,rfl,o2⟩
 obtain ⟨c3,op,a',b',hx,o3⟩:=hx;rw [hx,aa];simp only;obtain ⟨r5,c5,k5,o5,_⟩:=bF c3 30 o3 (by omega);rw [k5,aa];simp only;by_cases h0:r5=0
 ·obtain ⟨r6,c6,k6,o6⟩:=dh c5 [-1,n,11,12] o5 (by simp) (by simp);rw [ah h0,ai,k6,aa,aa];exact ⟨_,_,_,_,rfl,o6⟩
 rw [au h0,aj];by_cases h1:r5=1
 ·obtain ⟨r6,c6,k6,o6⟩:=dh c5 [-1,0,n,12] o5 (by simp) (by simp);rw [ah h1,ai,k6,aa,aa];exact ⟨_,_,_,_,rfl,o6⟩
 rw [au h1,aj];by_cases h2:r5=2
 ·obtain ⟨r6,c6,k6,o6⟩:=dh c5 [0,5] o5 (by simp) (by simp);rw [ah h2,ai,k6,aa,aa];exact ⟨_,_,_,_,rfl,o6⟩
 ·rw [au h2,aj,aa];exact ⟨_,_,_,_,rfl,o5⟩
abbrev Shr:=Int × Int × List aD × An
def SLR (n:Nat) (S:List Shr) (ss:List uQ):Prop:=S.length=ss.length/\∀(j:Nat) (L:List aD) (y:An),ss[j]?=some (L,y)->S[j]?=some ((j:Int)+1,(n:Int),L,y)
theorem SLR.at {n:Nat} {S:List Shr} {ss:List uQ} (h:SLR n S ss) {s:Int} (h1:1<=s) {L:List aD} {y:An} (hs:ss[(s-1).toNat]?=some (L,y)):(s-1).toNat<S.length/\S[(s-1).toNat]?=some (s,(n:Int),L,y):=by
 have:=(aY hs).1;have h2:=h.2 _ _ _ hs;rw [show (((s-1).toNat:Nat):Int)+1=s from by omega] at h2;exact ⟨by have:=h.1;omega,h2⟩
theorem SLR.set {n:Nat} {S:List Shr} {ss:List uQ} (h:SLR n S ss) {s:Int} (h1:1<=s) (L:List aD) (y:An):SLR n (S.set (s-1).toNat (s,(n:Int),L,y)) (ss.set (s-1).toNat (L,y)):=by
 refine ⟨by rw [mg,mg];exact h.1,fun j M w hj => ?_⟩;rw [List.getElem?_set] at hj ⊢;by_cases hjs:(s-1).toNat=j
 ·rw [if_pos hjs] at hj ⊢;by_cases hl:(s-1).toNat<ss.length
  ·rw [if_pos hl] at hj;cases hj;rw [if_pos (by have:=h.1;omega),show (j:Int)+1=s from by omega]
  ·rw [if_neg hl] at hj;cases hj
 ·rw [if_neg hjs] at hj ⊢;exact h.2 j M w hj
theorem ao0 (h:Hd):Aa h=some (!decide (shO h=0),()):=XG _ _ _ _ _ _ _ _ _ _ _ _ _ _ _
abbrev flH (h:Hd) (b:Bool):Int × List Int × List (Int × Int) × List (List Int) × List Int × Int × Int × Int × Int × Int × Int × Int × List (Int × Int) × Int × List (Int × Int × Int × Int × Int × Int) × Bool:=(h.1,h.2.1,h.2.2.1,h.2.2.2.1,h.2.2.2.2.1,h.2.2.2.2.2.1,h.2.2.2.2.2.2.1,h.2.2.2.2.2.2.2.1,h.2.2.2.2.2.2.2.2.1,h.2.2.2.2.2.2.2.2.2.1,h.2.2.2.2.2.2.2.2.2.2.1,h.2.2.2.2.2.2.2.2.2.2.2.1,h.2.2.2.2.2.2.2.2.2.2.2.2.1,h.2.2.2.2.2.2.2.2.2.2.2.2.2.1,h.2.2.2.2.2.2.2.2.2.2.2.2.2.2,b)
theorem aiz {N K:Nat} (n1:1<=N) (n2:N<=12) (k1:1<=K) (k2:K<=3):Ht ((N:Int),(K:Int))=some (flH (hdN N K) true,()):=by
 have hm:maxLen=9223372036854775807:=by decide
 show Hr BIG _=_;rw [agR,bT,bT,aC.2 (by omega),aC.2 (by omega)];simp only [bz,aj,aa];have g1:∀(s0:Hd),s0.2.1=[]->∀F:(Hd × Int->Option Hd)->Hd × Int->Option Hd,
   (∀self (s:Hd) (i:Nat),i<N->s.2.1.length=i->F self (s,(i:Int))=self ((s.1,s.2.1++[1+Int.tmod (i:Int) K],s.2.2),((i+1:Nat):Int)))->(∀self s,F self (s,(N:Int))=some s) ->
   aO BIG F (s0,0)=some (s0.1,OO N K,s0.2.2):=by
  intro s0 h0 F hF hE;rw [rangeLoop N (by omega) (fun i (s:Hd)=>s.2.1.length=i) (fun i s=>(s.1,s.2.1++[1+Int.tmod (i:Int) K],s.2.2)) id (by rw [h0];rfl) (fun i s _ h=>by simp [h]) (fun self s i hi h=>hF self s i hi h) (fun self s _=>hE self s),amd,h0];rfl
 rw [ah (by omega),ai,ah (by omega),ai,g1 _ rfl]
 ·rw [aa,rangeLoop K (by omega) (fun i (s:Hd)=>s.2.2.2.1.length=i) (fun _ s=>(s.1,s.2.1,s.2.2.1,s.2.2.2.1++[ww N],s.2.2.2.2)) id rfl (fun i s _ h=>by simp [h])]
  ·rw [ame];rfl
  ·intro self s i hi hs1;simp only [show ((i:Int)<(K:Int)) from by omega,decide_true,ai];rw [CJ N [] (by omega) (fun e he=>by cases he) (by simp),aa,ah (by simp;omega),ai,bX (by omega)];rfl
  ·intro self s _;simp
 ·intro self s i hi hs;have:=aqi (i:=i) (k:=K) (by omega) (by omega);simp only [show ((i:Int)<(N:Int)) from by omega,decide_true,ai];rw [au (by omega),aj,wr (by omega) (by omega),ah (by simp;omega),ai,bX (by omega)]
 ·intro self s;simp
theorem ams {h h':Hd} {i op a b told:Int} (e:tkU h i op a b=flI h' told) (ht:told≠0):V6 h (1,i,op,a,b,0,0,false,[],[],0,0,[],0)=some h':=by
 have hx:hfR h (1,i,op,a,b,0,0,false,[],[],0,0,[],0)=frt (tkU h i op a b):=by
  unfold hfR;rw [if_pos rfl]
 unfold V6;rw [hx,e];show (if told=0 then none else some _)=_;rw [if_neg ht];rfl
theorem amt {h h':Hd} {sh told:Int} {y:An} (e:heU h sh y=flI h' told) (ht:told≠0):V6 h (2,0,0,0,0,sh,y.1,y.2.1,y.2.2.1,y.2.2.2,0,0,[],0)=some h':=by
 have hx:hfR h (2,0,0,0,0,sh,y.1,y.2.1,y.2.2.1,y.2.2.2,0,0,[],0)=frt (heU h sh y):=by
  unfold hfR;rw [if_neg (show ¬(2:Int)=1 by omega),if_pos rfl]
 unfold V6;rw [hx,e];show (if told=0 then none else some _)=_;rw [if_neg ht];rfl
theorem alk (x0 x1:Int) (x2:List aD) (y:An) (h2:x2.length<=1048576) (h5:y.2.2.1.length<=1048576) (h6:y.2.2.2.length<=1048576) :
  ∃b,zB (x0,x1,x2,y)=some (b,())/\(b=true↔(1<=x0/\x0<=3)/\0<=x1/\WOk x1.toNat x2/\(xG y=true\/ek x1 y=true/\y.2.2.2=labs x1.toNat (aN x2 0))):=by
 have hm:maxLen=9223372036854775807:=by decide
 show ∃b,I1 BIG _=_/\_;rw [ahm,bT,aa];by_cases h0:aP x0 1 3=true;case neg=>
  rw [show aP x0 1 3=false by simpa using h0];exact ⟨false,rfl,⟨(fun h=>by cases h),fun h=>absurd (aC.2 h.1) h0⟩⟩
 rw [h0];obtain ⟨b',b1',b2⟩:=KF x1 x2 h2;simp only [bz,aj,b1',aa];cases b' with
 | false=>
  refine ⟨false,rfl,⟨(fun h=>by cases h),fun h => ?_⟩⟩;have:=b2.2 ⟨h.2.1,h.2.2.1⟩;cases this
 | true=>
  obtain ⟨n0,hw⟩:=b2.1 rfl;simp only [bz,aj];rw [Rm _ (by omega) (by omega),aa];cases hb:xG y with
  | true=>exact ⟨true,rfl,⟨fun _=>⟨aC.1 h0,n0,hw,.inl rfl⟩,fun _=>rfl⟩⟩
  | false=>
   simp only [aj];rw [FE _ _ h5 h6,aa];cases ha:ek x1 y with
   | false=>exact ⟨false,rfl,⟨(fun h=>by cases h),fun h=>by
     rcases h.2.2.2 with h|⟨h,_⟩<;>cases h⟩⟩
   | true=>
    obtain ⟨m,rfl⟩:∃m:Nat,x1=(m:Int):=⟨x1.toNat,by omega⟩
    rw [dC] at hw ⊢;obtain ⟨V',v1',v2',_⟩:=O6 m x2 h2;rw [v2' hw] at v1';simp only [ai];rw [v1',aa,wz _ _ (by omega),aa];refine ⟨_,rfl,?_⟩;rw [decide_eq_true_eq];exact ⟨fun h=>⟨aC.1 h0,n0,hw,.inr ⟨by trivial,h⟩⟩,fun h=>by
     rcases h.2.2.2 with h|⟨_,h⟩
     ·cases h
     ·exact h⟩
theorem Tg (n:Int) (L:List aD) (e:Ed) (hL:L.length<=1000000):∃r:Int × List aD × Bool,qX ((n,L),e)=some (r,())/\r.2.1.length<=67/\(¬(0<=n/\WOk n.toNat L/\cZ n e=true/\e∉gE L)->r=(0,[],false))/\((0<=n/\WOk n.toNat L/\cZ n e=true/\e∉gE L)->r=(n,L.filter (fun y=>lsB (y.1,y.2.1) e)++[(e.1,e.2,0,!decide (bI n.toNat L 0 e.1=bI n.toNat L 0 e.2))]++L.filter (fun y=>lsB e (y.1,y.2.1)),true)):=by
 have hm:maxLen=9223372036854775807:=by decide
 have hgl:(gE L).length=L.length:=by unfold gE;rw [List.length_map]
 have hGs:jg (n,L)=some ((n,gE L),()):=zW n L (by omega);obtain ⟨b',b1',b2⟩:=KF n L (by omega);show ∃r:Int × List aD × Bool,ND BIG _=_/\_;rw [akd,hGs,aa];simp only;simp only [aih n (gE L) e (by omega),b1',aa];cases b' with
 | false=>exact ⟨_,rfl,by simp,fun _=>rfl,fun h=>absurd (b2.2 ⟨h.1,h.2.1⟩) (by simp)⟩
 | true=>
  obtain ⟨n0,hw⟩:=b2.1 rfl;obtain ⟨m,rfl⟩:∃m:Nat,n=(m:Int):=⟨n.toNat,by omega⟩
  rw [dC] at hw;have hg:=hw.gr;obtain ⟨h1,h12⟩:=O5 hg;obtain ⟨hgE,hgn,hL6⟩:=ji hg;have hsrt:zb (gE L):=by
   have h:=hg;unfold iq at h;rw [aG] at h;exact (jL h.2).2.1
  simp only [bz,aj];unfold SY;rw [hg,Bool.true_and];by_cases hc:(cZ (m:Int) e && !decide (e∈gE L))=true;case neg=>
   rw [if_neg hc];exact ⟨_,rfl,by simp,fun _=>rfl,fun h=>absurd (by rw [h.2.2.1,au h.2.2.2];rfl) hc⟩
  rw [if_pos hc];simp only [aG,Bool.not_eq_true',decide_eq_false_iff_not] at hc;obtain ⟨he,hne⟩:=hc;have her:=eB he;simp only [bz,aa,aj];have hll:=dD m (aN L 0)
  -- the place
  have hkk:L.findIdx (fun y=>!lsB (y.1,y.2.1) e)<=L.length:=List.findIdx_le_length;have hpl:∀j (hj:j<L.length),j<L.findIdx (fun y=>!lsB (y.1,y.2.1) e)->lsB (L[j].1,L[j].2.1) e=true:=by
   intro j hj hlt;have:=List.not_of_lt_findIdx hlt;simpa using this
  have hps:∀hj:L.findIdx (fun y=>!lsB (y.1,y.2.1) e)<L.length,lsB (L[L.findIdx (fun y=>!lsB (y.1,y.2.1) e)].1,L[L.findIdx (fun y=>!lsB (y.1,y.2.1) e)].2.1) e=false:=by
   intro hj;have:=List.findIdx_getElem (w:=hj);simpa using this
  generalize L.findIdx (fun y=>!lsB (y.1,y.2.1) e)=kk at hkk hpl hps;obtain ⟨q1,q2⟩:=put_eq hsrt hne hkk hpl hps;have hyes:0<=(m:Int)/\WOk (m:Int).toNat L/\cZ (m:Int) e=true/\e∉gE L:=⟨n0,by rw [dC];exact hw,he,hne⟩
  refine ⟨((m:Int),L.filter (fun y=>lsB (y.1,y.2.1) e)++[(e.1,e.2,0,!decide (bI m L 0 e.1=bI m L 0 e.2))]++L.filter (fun y=>lsB e (y.1,y.2.1)),true),?_,?_,fun h=>absurd hyes h,fun _=>by rw [dC]⟩
  ·-- the reference
   obtain ⟨hE,hEn,hEl⟩:=KC hg 0;obtain ⟨r,b,r1,r2,r3⟩:=wR (n:=m) L 0 h1 h12 (by omega) hE;obtain ⟨Fs,rfl,hF⟩:=r3 (r2.2 hw.nc);obtain ⟨ja,pa,a1,a2,a3⟩:=nN hE hF h12 h1 e.1 her.1 her.2.1;obtain ⟨jb,pb,c1,c2,c3⟩:=nN hE hF h12 h1 e.2 her.2.2.1 her.2.2.2.1;have hiff:((ja:Int)=(jb:Int))↔bI m L 0 e.1=bI m L 0 e.2:=by
    rw [iQ hg 0 ⟨her.1,her.2.1⟩ ⟨her.2.2.1,her.2.2.2.1⟩];constructor
    ·intro h;have:ja=jb:=by omega
     subst this;rw [a1,aF] at c1;subst c1;have hG:=hF.gt pa (List.mem_of_getElem? a1);exact ((hG.con hE _).1 a2).symm.trans ((hG.con hE _).1 c2)
    ·intro h;have:=hF.idx hE a1 c1 a2 c2 h;omega
   have hd:decide ((ja:Int)=(jb:Int))=decide (bI m L 0 e.1=bI m L 0 e.2):=by
    by_cases h:bI m L 0 e.1=bI m L 0 e.2
    ·rw [ah h,ah (hiff.2 h)]
    ·rw [au h,au (fun h'=>h (hiff.1 h'))]
   rw [r1,aa];simp only;rw [a3,aa,c3,aa,ak7 _ _ (by omega),aa];simp only;rw [hd]
  ·rw [q1,q2];simp only [bq,List.length_take,List.length_drop,aX,List.length_nil];omega
theorem Pe (n:Int) (L:List aD) (e:Ed) (hL:L.length<=1000000):∃r:Int × List aD × Int × Int × Bool × Bool,jh ((n,L),e)=some (r,())/\r.2.1.length<=66/\(¬(0<=n/\WOk n.toNat L/\e∈gE L)->r=(0,[],0,0,false,false))/\((0<=n/\WOk n.toNat L/\e∈gE L)->∃old,old∈L/\(old.1,old.2.1)=e/\r.1=n/\r.2.2.2.2.2=true/\r.2.1=if old.2.2.2=true then (yP n.toNat e (old.2.2.1.toNat+1) (L.filter fun y=>decide ((y.1,y.2.1)≠e))).1 else L.filter fun y=>decide ((y.1,y.2.1)≠e)):=by
 have hm:maxLen=9223372036854775807:=by decide
 have hgl:(gE L).length=L.length:=by unfold gE;rw [List.length_map]
 have hGs:jg (n,L)=some ((n,gE L),()):=zW n L (by omega);obtain ⟨b',b1',b2⟩:=KF n L (by omega);show ∃r:Int × List aD × Int × Int × Bool × Bool,Jf BIG _=_/\_;rw [ahw,b1',aa,hGs];cases b' with
 | false=>exact ⟨_,rfl,by simp,fun _=>rfl,fun h=>absurd (b2.2 ⟨h.1,h.2.1⟩) (by simp)⟩
 | true=>
  obtain ⟨n0,hw⟩:=b2.1 rfl;obtain ⟨m,rfl⟩:∃m:Nat,n=(m:Int):=⟨n.toNat,by omega⟩
  rw [dC] at hw;have hg:=hw.gr;obtain ⟨h1,h12⟩:=O5 hg;obtain ⟨hgE,hgn,hL6⟩:=ji hg;simp only [bz,aj,aa];rw [Kr _ _ _ (by omega),aa];by_cases hin:e∈gE L;case neg=>
   rw [au hin];exact ⟨_,rfl,by simp,fun _=>rfl,fun h=>absurd h.2.2 hin⟩
  rw [ah hin];simp only [bz,aj,aa];have her:=eB (hgE e hin)
  -- the lost one and the others
  have ls:aO BIG (fun self5 x4=>
  bif decide (x4.2.2<(L.length:Int)) then
   Option.bind (Option.bind (bnd L.length x4.2.2 fun n6=>
    Option.bind L[n6]? fun y7=>
    bif decide (y7.1=e.1) then
     bnd L.length x4.2.2 fun n8=>
     Option.bind L[n8]? fun y9=>
     some (decide (y9.2.1=e.2))
    else some false:Option (Bool)) fun x10=>
    bif x10 then
     bnd L.length x4.2.2 fun n11=>
     Option.bind L[n11]? fun y12=>
     some (y12,x4.2.1)
    else bnd L.length x4.2.2 fun n13=>
    Option.bind L[n13]? fun y14=>
    bif decide (x4.2.1.2.length+[y14].length<=4294967296) then
     some (x4.1,(x4.2.1.1,x4.2.1.2++[y14]))
    else none:Option ((Int × Int × Int × Bool) × (Int × List (Int × Int × Int × Bool)))) fun x15=>
   self5 (x15.1,x15.2,IntKind.wrap .i64 (x4.2.2+(1:Int)))
  else some (x4.1,x4.2.1)) ((((0:Int),(0:Int),(0:Int),false),((m:Int),[]),(0:Int)):aD × (Int × List aD) × Int)=some ((L.foldl (kU e) (((0:Int),(0:Int),(0:Int),false),[])).1,((m:Int),(L.foldl (kU e) (((0:Int),(0:Int),(0:Int),false),[])).2)):=by
   refine rf (fun (x:aD × (Int × List aD) × Int)=>∃i:Nat,i<=L.length/\x=(((L.take i).foldl (kU e) (((0:Int),(0:Int),(0:Int),false),[])).1,((m:Int),((L.take i).foldl (kU e) (((0:Int),(0:Int),(0:Int),false),[])).2),(i:Int))) (fun x=>L.length-x.2.2.toNat) (fun _=>_) (fun self x ⟨i,h1,h2⟩ hs => ?_) (n:=BIG) (x:=_) (by simp [BIG];omega) ⟨0,by omega,rfl⟩;subst h2;simp only;by_cases hi:i<L.length
   ·have hfl:=aqx e L i;have bi:∀{B:Type} {q:Nat->Option B},bnd L.length (i:Int) q=q i:=fun {B q}=>aK hi
    simp only [show ((i:Int)<(L.length:Int)) from by omega,decide_true,ai,bi,aR hi,aa];rw [bX (by omega)];have hst:(L.take (i+1)).foldl (kU e) (((0:Int),(0:Int),(0:Int),false),[])=kU e ((L.take i).foldl (kU e) (((0:Int),(0:Int),(0:Int),false),[])) L[i]:=by
     rw [List.take_succ_eq_append_getElem hi,List.foldl_append];rfl
    have hn:=hs (((L.take (i+1)).foldl (kU e) (((0:Int),(0:Int),(0:Int),false),[])).1,((m:Int),((L.take (i+1)).foldl (kU e) (((0:Int),(0:Int),(0:Int),false),[])).2),((i+1:Nat):Int)) ⟨i+1,hi,rfl⟩ (by simp;omega);rw [hst] at hn;unfold kU at hn;by_cases c1:L[i].1=e.1
    ·rw [ah c1,ai,aa];by_cases c2:L[i].2.1=e.2
     ·rw [ah c2,ai,aa];rw [if_pos ⟨c1,c2⟩] at hn;exact hn
     ·rw [au c2,aj,ah (by simp only [aX,List.length_nil];omega),ai,aa];rw [if_neg (fun h=>c2 h.2)] at hn;exact hn
    ·rw [au c1,aj,aa,aj,ah (by simp only [aX,List.length_nil];omega),ai,aa];rw [if_neg (fun h=>c1 h.1)] at hn;exact hn
   ·simp only [show ¬((i:Int)<(L.length:Int)) from by omega,decide_false,aj];have:i=L.length:=by omega
    subst this;rw [List.take_length]
  rw [ls,aa];obtain ⟨s1,s2,s3⟩:=P9 e L (((0:Int),(0:Int),(0:Int),false)) [];have hold:=s3 (by
   obtain ⟨y,hy,hye⟩:=List.mem_map.1 hin
   exact ⟨y,hy,hye⟩)
  rw [List.nil_append] at s1;generalize L.foldl (kU e) (((0:Int),(0:Int),(0:Int),false),[])=S at s1 hold;obtain ⟨old,rest⟩:=S;simp only at s1 hold ⊢;obtain ⟨hold,holde⟩:=hold;have hyes:0<=(m:Int)/\WOk (m:Int).toNat L/\e∈gE L:=⟨n0,by rw [dC];exact hw,hin⟩
  have hsub:rest.Sublist L:=by rw [s1];exact List.filter_sublist
  have hrl:=hsub.length_le;have hgr:iq m (gE rest)=true:=by
   have hsE:(gE rest).Sublist (gE L):=List.Sublist.map _ hsub;have hsrt:zb (gE L):=by
    have h:=hg;unfold iq at h;rw [aG] at h;exact (jL h.2).2.1
   have hG:GrOk (m:Int) (gE rest):=⟨by omega,by omega,List.Pairwise.sublist hsE hsrt,fun x hx=>hgE x (hsE.subset hx)⟩
   unfold iq;rw [show aP (m:Int) 1 12=true from aC.2 (by omega),Gy hG (by unfold gE;rw [List.length_map];omega)];rfl
  have htr:NoCyc (LG rest):=by
   have:NoCyc (LG L):=by rw [aq9 hw.lv];exact hw.nc
   exact this.sub fun x hx=>(List.Sublist.map _ (List.Sublist.filter _ hsub)).subset hx
  have hlv:=hw.lv old hold;cases ht:old.2.2.2 with
  | false=>
   exact ⟨((m:Int),rest,(0:Int),(0:Int),false,true),rfl,by simp only;omega,fun h=>absurd hyes h,fun _=>⟨old,hold,holde,rfl,rfl,by rw [if_neg (by rw [ht];simp)];exact s1⟩⟩
  | true=>
   have hlev:old.2.2.1=((old.2.2.1.toNat+1:Nat):Int)-1:=by omega
   have t2:=ar0 ⟨her.1,her.2.1⟩ ⟨her.2.2.1,her.2.2.2.1⟩ (old.2.2.1.toNat+1) (by omega) rest ⟨hgr,htr⟩;rw [<-hlev] at t2;simp only [bz,aj];rw [t2,aa];have hl:=ac4 m e (old.2.2.1.toNat+1) rest;rw [dC];subst s1;generalize htk:yP m e (old.2.2.1.toNat+1) (L.filter fun y=>decide ((y.1,y.2.1)≠e))=t at hl;obtain ⟨M,o⟩:=t;simp only at hl;cases o with
   | none=>exact ⟨_,rfl,by simp only;omega,fun h=>absurd hyes h,fun _=>⟨old,hold,holde,rfl,rfl,by rw [if_pos ht,htk]⟩⟩
   | some y=>exact ⟨_,rfl,by simp only;omega,fun h=>absurd hyes h,fun _=>⟨old,hold,holde,rfl,rfl,by rw [if_pos ht,htk]⟩⟩
noncomputable def pO (W:Wb) (e:Ed):Int × List aD × Int × Int × Bool × Bool:=((jh (W,e)).getD ((0,[],0,0,false,false),())).1
noncomputable def uG (W:Wb) (e:Ed):Int × List aD × Bool:=((qX (W,e)).getD ((0,[],false),())).1
theorem adb {W:Wb} (e:Ed) (h:W.2.length<=1000000):jh (W,e)=some (pO W e,())/\(pO W e).2.1.length<=66:=by
 obtain ⟨n,L⟩:=W;obtain ⟨r,h2,h3,_⟩:=Pe n L e h;have:pO (n,L) e=r:=by unfold pO;rw [h2];rfl
 rw [this];exact ⟨h2,h3⟩
theorem alm {W:Wb} (e:Ed) (h:W.2.length<=1000000):qX (W,e)=some (uG W e,())/\(uG W e).2.1.length<=67:=by
 obtain ⟨n,L⟩:=W;obtain ⟨r,h2,h3,_⟩:=Tg n L e h;have:uG (n,L) e=r:=by unfold uG;rw [h2];rfl
 rw [this];exact ⟨h2,h3⟩
noncomputable def gV (v:Int) (s:Wb × List Ed) (y:Ed):Wb × List Ed:=if y.1=v\/y.2=v then (((pO s.1 y).1,(pO s.1 y).2.1),s.2++[y]) else s
noncomputable def iV (s:Wb × Bool) (y:Ed):Wb × Bool:=(if (uG s.1 y).2.2=true then ((uG s.1 y).1,(uG s.1 y).2.1) else s.1,s.2&&(uG s.1 y).2.2)
theorem Ti (v:Int):∀(es:List Ed) (s:Wb × List Ed),s.1.2.length<=1000000->(es.foldl (gV v) s).1.2.length<=1000000/\(es.foldl (gV v) s).2.length<=s.2.length+es.length
 | [],s,h=>⟨h,by simp⟩
 | y::es,s,h=>by
  rw [List.foldl_cons];have h1:=(adb y h).2;by_cases hc:y.1=v\/y.2=v
  ·have hs:gV v s y=(((pO s.1 y).1,(pO s.1 y).2.1),s.2++[y]):=by unfold gV;rw [if_pos hc]
   obtain ⟨a,b⟩:=Ti v es (gV v s y) (by rw [hs];simp only;omega);refine ⟨a,?_⟩;rw [hs] at b ⊢;simp only [bq,aX,List.length_nil] at b ⊢;omega
  ·have hs:gV v s y=s:=by unfold gV;rw [if_neg hc]
   obtain ⟨a,b⟩:=Ti v es (gV v s y) (by rw [hs];exact h);refine ⟨a,?_⟩;rw [hs] at b ⊢;simp only [aX];omega
theorem adc:∀(es:List Ed) (s:Wb × Bool),s.1.2.length<=1000000->(es.foldl iV s).1.2.length<=1000000
 | [],s,h=>h
 | y::es,s,h=>by
  rw [List.foldl_cons];have h1:=(alm y h).2;refine adc es _ ?_;unfold iV;simp only;split
  ·simp only;omega
  ·exact h
section
variable (x0 n:Int) (L:List aD) (y:An) (hL:L.length<=1000000)
include hL
theorem aep (v num:Int) (E:List Ed) (hE:E.length<=1000000):aO BIG (fun self20 x19=>
   bif decide (x19.2.2<(E.length:Int)) then
    Option.bind (Option.bind (bnd E.length x19.2.2 fun n21=>
     Option.bind E[n21]? fun y22=>
     bif decide (y22.1=v) then
      some true
     else bnd E.length x19.2.2 fun n23=>
     Option.bind E[n23]? fun y24=>
     some (decide (y24.2=v)):Option (Bool)) fun x25=>
     bif x25 then
      bnd E.length x19.2.2 fun n26=>
      Option.bind E[n26]? fun y27=>
      Option.bind (jh (x19.1,y27)) fun r28=>
      bnd E.length x19.2.2 fun n29=>
      Option.bind E[n29]? fun y30=>
      bif decide (x19.2.1.2.2.1.length+[y30].length<=4294967296) then
       some ((r28.1.1,r28.1.2.1),(x19.2.1.1,x19.2.1.2.1,x19.2.1.2.2.1++[y30],x19.2.1.2.2.2))
      else none
     else some (x19.1,x19.2.1):Option ((Int × List (Int × Int × Int × Bool)) × (Int × Bool × List (Int × Int) × List (Int)))) fun x31=>
    self20 (x31.1,x31.2,IntKind.wrap .i64 (x19.2.2+(1:Int)))
   else some (x19.1,x19.2.1)) (((n,L),(num,true,[],[]),(0:Int)):Wb × An × Int)=some ((E.foldl (gV v) ((n,L),[])).1,(num,true,(E.foldl (gV v) ((n,L),[])).2,[])):=by
 have hm:maxLen=9223372036854775807:=by decide
 refine rf (fun (x:Wb × An × Int)=>∃i:Nat,i<=E.length/\x=(((E.take i).foldl (gV v) ((n,L),[])).1,(num,true,((E.take i).foldl (gV v) ((n,L),[])).2,[]),(i:Int))) (fun x=>E.length-x.2.2.toNat) (fun _=>_) (fun self x ⟨i,h1,h2⟩ hs => ?_) (n:=BIG) (x:=_) (by simp [BIG];omega) ⟨0,by omega,rfl⟩;subst h2;simp only;by_cases hi:i<E.length
 ·obtain ⟨l1,l2⟩:=Ti v (E.take i) ((n,L),[]) hL;rw [List.length_take] at l2;simp only [List.length_nil] at l2;have hn:=hs (((E.take (i+1)).foldl (gV v) ((n,L),[])).1,(num,true,((E.take (i+1)).foldl (gV v) ((n,L),[])).2,[]),((i+1:Nat):Int)) ⟨i+1,hi,rfl⟩ (by simp;omega);rw [Zd _ _ hi] at hn;obtain ⟨t1,t3⟩:=adb E[i] l1;generalize (E.take i).foldl (gV v) ((n,L),[])=s at l1 l2 hn t1 t3;obtain ⟨W,out⟩:=s;simp only at l1 l2 t1 t3;unfold gV at hn;have bi:∀{B:Type} {q:Nat->Option B},bnd E.length (i:Int) q=q i:=fun {B q}=>aK hi
  simp only [show ((i:Int)<(E.length:Int)) from by omega,decide_true,ai,bi,aR hi,aa];rw [bX (by omega)];have hc:(bif decide (E[i].1=v) then some true else some (decide (E[i].2=v)):Option Bool)=some (decide (E[i].1=v\/E[i].2=v)):=by
   by_cases c1:E[i].1=v<;>by_cases c2:E[i].2=v<;>simp [c1,c2]
  rw [hc,aa];by_cases c:E[i].1=v\/E[i].2=v
  ·rw [ah c,ai,t1,aa,ah (by simp only [aX,List.length_nil];omega),ai,aa];rw [if_pos c] at hn;exact hn
  ·rw [au c,aj,aa];rw [if_neg c] at hn;exact hn
 ·simp only [show ¬((i:Int)<(E.length:Int)) from by omega,decide_false,aj];have:i=E.length:=by omega
  subst this;rw [List.take_length]
theorem aiA (num:Int) (E:List Ed) (hE:E.length<=1000000):aO BIG (fun self7 x6=>
   bif decide (x6.2.2<(E.length:Int)) then
    Option.bind (bnd E.length x6.2.2 fun n8=>
     Option.bind E[n8]? fun y9=>
     Option.bind (qX (x6.1,y9)) fun r10=>
     Option.bind (bif r10.1.2.2 then
      some (r10.1.1,r10.1.2.1)
      else some x6.1:Option ((Int × List (Int × Int × Int × Bool)))) fun x11=>
     Option.bind (bif x6.2.1.2.1 then
      some (x6.2.1.1,r10.1.2.2,x6.2.1.2.2)
      else some (x6.2.1.1,false,x6.2.1.2.2):Option ((Int × Bool × List (Int × Int) × List (Int)))) fun x12=>
     some (x11,x12):Option ((Int × List (Int × Int × Int × Bool)) × (Int × Bool × List (Int × Int) × List (Int)))) fun x13=>
    self7 (x13.1,x13.2,IntKind.wrap .i64 (x6.2.2+(1:Int)))
   else some (x6.1,x6.2.1)) (((n,L),(num,true,[],[]),(0:Int)):Wb × An × Int)=some ((E.foldl iV ((n,L),true)).1,(num,(E.foldl iV ((n,L),true)).2,[],[])):=by
 have hm:maxLen=9223372036854775807:=by decide
 refine rf (fun (x:Wb × An × Int)=>∃i:Nat,i<=E.length/\x=(((E.take i).foldl iV ((n,L),true)).1,(num,((E.take i).foldl iV ((n,L),true)).2,[],[]),(i:Int))) (fun x=>E.length-x.2.2.toNat) (fun _=>_) (fun self x ⟨i,h1,h2⟩ hs => ?_) (n:=BIG) (x:=_) (by simp [BIG];omega) ⟨0,by omega,rfl⟩;subst h2;simp only;by_cases hi:i<E.length
 ·have l1:=adc (E.take i) ((n,L),true) hL;have hn:=hs (((E.take (i+1)).foldl iV ((n,L),true)).1,(num,((E.take (i+1)).foldl iV ((n,L),true)).2,[],[]),((i+1:Nat):Int)) ⟨i+1,hi,rfl⟩ (by simp;omega);rw [Zd _ _ hi] at hn;obtain ⟨t1,t3⟩:=alm E[i] l1;generalize (E.take i).foldl iV ((n,L),true)=s at l1 hn t1 t3;obtain ⟨W,al⟩:=s;simp only at l1 t1 t3;unfold iV at hn;simp only [show ((i:Int)<(E.length:Int)) from by omega,decide_true,ai];rw [aK hi,aR hi,aa,bX (by omega),t1,aa];simp only at hn ⊢;cases hok:(uG W E[i]).2.2 with
  | true=>
   rw [hok] at hn;simp only [if_true,Bool.and_true] at hn;cases al<;>exact hn
  | false=>
   rw [hok] at hn;simp only [Bool.false_eq_true,if_false,Bool.and_false] at hn;cases al<;>exact hn
 ·simp only [show ¬((i:Int)<(E.length:Int)) from by omega,decide_false,aj];have:i=E.length:=by omega
  subst this;rw [List.take_length]
end
theorem Ze {n:Nat} {L:List aD} (hw:WOk n L) {y:Ed} (hy:y∈gE L):(pO ((n:Int),L) y).1=n/\(pO ((n:Int),L) y).2.2.2.2.2=true/\WOk n (pO ((n:Int),L) y).2.1/\gE (pO ((n:Int),L) y).2.1=del (gE L) y:=by
 have hL6:=(ji hw.gr).2.2;obtain ⟨r,h1,_,_,h5⟩:=Pe n L y (by omega);have hr:pO ((n:Int),L) y=r:=by unfold pO;rw [h1];rfl
 rw [hr];obtain ⟨old,o1,o2,o3,o4,o5⟩:=h5 ⟨by omega,by rw [dC];exact hw,hy⟩;rw [dC] at o5;have:=aiw hw o1 o2;rw [<-o5] at this;exact ⟨o3,o4,this.1,this.2⟩
theorem Zf {n:Nat} {L:List aD} (hw:WOk n L) {y:Ed} (he:cZ n y=true) (hy:y∉gE L):(uG ((n:Int),L) y).1=n/\(uG ((n:Int),L) y).2.2=true/\WOk n (uG ((n:Int),L) y).2.1/\gE (uG ((n:Int),L) y).2.1=ins (gE L) y:=by
 have hL6:=(ji hw.gr).2.2;obtain ⟨r,h1,_,_,h5⟩:=Tg n L y (by omega);have hr:uG ((n:Int),L) y=r:=by unfold uG;rw [h1];rfl
 have h6:=h5 ⟨by omega,by rw [dC];exact hw,he,hy⟩;rw [dC] at h6;rw [hr,h6];exact ⟨rfl,rfl,ala hw he hy⟩
theorem ao1 {n:Nat} {L:List aD} (hw:WOk n L) {y:Ed} (hy:y∉gE L):(pO ((n:Int),L) y).2.2.2.2.2=false:=by
 have hL6:=(ji hw.gr).2.2;obtain ⟨r,h1,_,h5,_⟩:=Pe n L y (by omega);have hr:pO ((n:Int),L) y=r:=by unfold pO;rw [h1];rfl
 rw [hr,h5 (fun h=>hy h.2.2)]
theorem af4 {n:Nat} {L:List aD} (hw:WOk n L) {y:Ed} (hy:y∈gE L):(uG ((n:Int),L) y).2.2=false:=by
 have hL6:=(ji hw.gr).2.2;obtain ⟨r,h1,_,h5,_⟩:=Tg n L y (by omega);have hr:uG ((n:Int),L) y=r:=by unfold uG;rw [h1];rfl
 rw [hr,h5 (fun h=>h.2.2.2 hy)]
theorem KJ {n:Nat} (v:Int):∀(es:List Ed) (L:List aD) (out:List Ed),WOk n L->es.Nodup->(∀y,y∈es->y∈gE L) ->
  (es.foldl (gV v) (((n:Int),L),out)).1.1=n/\WOk n (es.foldl (gV v) (((n:Int),L),out)).1.2/\(∀x,x∈gE (es.foldl (gV v) (((n:Int),L),out)).1.2↔x∈gE L/\¬(x∈es/\xK v x=true))/\(es.foldl (gV v) (((n:Int),L),out)).2=out++es.filter (xK v)
 | [],L,out,hw,_,_=>by simp [hw]
 | y::es,L,out,hw,hn,hin=>by
  rw [List.nodup_cons] at hn;rw [List.foldl_cons];by_cases hc:y.1=v\/y.2=v
  ·have hs:gV v (((n:Int),L),out) y=(((pO ((n:Int),L) y).1,(pO ((n:Int),L) y).2.1),out++[y]):=by unfold gV;rw [if_pos hc]
   obtain ⟨t1,_,t3,t4⟩:=Ze hw (hin y (List.mem_cons_self ..));rw [hs,t1];obtain ⟨g1,g2,g3,g4⟩:=KJ v es (pO ((n:Int),L) y).2.1 (out++[y]) t3 hn.2 (fun z hz=>by
    rw [t4,kS]
    exact ⟨hin z (List.mem_cons_of_mem _ hz),by rintro rfl;exact hn.1 hz⟩)
   refine ⟨g1,g2,fun x => ?_,?_⟩
   ·rw [g3,t4,kS,List.mem_cons];constructor
    ·rintro ⟨⟨h1,h2⟩,h3⟩;refine ⟨h1,?_⟩;rintro ⟨rfl|h4,h5⟩
     ·exact h2 rfl
     ·exact h3 ⟨h4,h5⟩
    ·rintro ⟨h1,h2⟩;refine ⟨⟨h1,?_⟩,fun h=>h2 ⟨.inr h.1,h.2⟩⟩;rintro rfl;exact h2 ⟨.inl rfl,by unfold xK;rw [ah hc]⟩
   ·rw [g4,List.filter_cons_of_pos (by unfold xK;rw [ah hc]),List.append_assoc];rfl
  ·have hs:gV v (((n:Int),L),out) y=(((n:Int),L),out):=by unfold gV;rw [if_neg hc]
   rw [hs];obtain ⟨g1,g2,g3,g4⟩:=KJ v es L out hw hn.2 (fun z hz=>hin z (List.mem_cons_of_mem _ hz));have hat:¬xK v y=true:=by unfold xK;rw [au hc];simp
   refine ⟨g1,g2,fun x => ?_,?_⟩
   ·rw [g3,List.mem_cons];constructor
    ·rintro ⟨h1,h2⟩;refine ⟨h1,?_⟩;rintro ⟨rfl|h4,h5⟩
     ·exact hat h5
     ·exact h2 ⟨h4,h5⟩
    ·rintro ⟨h1,h2⟩;exact ⟨h1,fun h=>h2 ⟨.inr h.1,h.2⟩⟩
   ·rw [g4,List.filter_cons_of_neg hat]
theorem Zg (v:Int):∀(es:List Ed) (s:Wb × List Ed),es.filter (xK v)=[]->es.foldl (gV v) s=s
 | [],s,_=>rfl
 | y::es,s,h=>by
  have hat:¬xK v y=true:=fun hh=>by
   rw [List.filter_cons_of_pos hh] at h
   cases h
  rw [List.filter_cons_of_neg hat] at h
  have hs:gV v s y=s:=by
   unfold gV;rw [if_neg];intro hc;exact hat (by unfold xK;rw [ah hc])
  rw [List.foldl_cons,hs]
  exact Zg v es s h
theorem KL {n:Nat}:∀(es:List Ed) (L:List aD) (b:Bool),WOk n L->(∀y,y∈es->cZ n y=true) ->
  (es.foldl iV (((n:Int),L),b)).1.1=n/\WOk n (es.foldl iV (((n:Int),L),b)).1.2/\(∀x,x∈gE (es.foldl iV (((n:Int),L),b)).1.2↔x∈gE L\/x∈es)/\(es.Nodup->(∀y,y∈es->y∉gE L)->(es.foldl iV (((n:Int),L),b)).2=b)
 | [],L,b,hw,_=>by simp [hw]
 | y::es,L,b,hw,he=>by
  rw [List.foldl_cons]
  have he':∀z,z∈es->cZ n z=true:=fun z hz=>he z (List.mem_cons_of_mem _ hz)
  by_cases hy:y∈gE L
  ·have hb:=af4 hw hy
   have hs:iV (((n:Int),L),b) y=(((n:Int),L),false):=by
    unfold iV;simp only [hb,Bool.false_eq_true,if_false,Bool.and_false]
   rw [hs]
   obtain ⟨g1,g2,g3,g4⟩:=KL es L false hw he'
   refine ⟨g1,g2,fun x => ?_,fun _ h=>absurd hy (h y (List.mem_cons_self ..))⟩
   rw [g3,List.mem_cons]
   constructor
   ·rintro (h|h)
    ·exact .inl h
    ·exact .inr (.inr h)
   ·rintro (h|rfl|h)
    ·exact .inl h
    ·exact .inl hy
    ·exact .inr h
  ·obtain ⟨t1,t2,t3,t4⟩:=Zf hw (he y (List.mem_cons_self ..)) hy
   have hs:iV (((n:Int),L),b) y=(((n:Int),(uG ((n:Int),L) y).2.1),b):=by
    unfold iV
    simp only [t2,if_true,Bool.and_true]
    rw [t1]
   rw [hs]
   obtain ⟨g1,g2,g3,g4⟩:=KL es _ b t3 he'
   refine ⟨g1,g2,fun x => ?_,fun hn h => ?_⟩
   ·rw [g3,t4,jC,List.mem_cons]
    constructor
    ·rintro ((h|h)|h)
     ·exact .inr (.inl h)
     ·exact .inl h
     ·exact .inr (.inr h)
    ·rintro (h|h|h)
     ·exact .inl (.inr h)
     ·exact .inl (.inl h)
     ·exact .inr h
   ·rw [List.nodup_cons] at hn
    refine g4 hn.2 fun z hz hzi => ?_
    rw [t4,jC] at hzi
    rcases hzi with rfl|hzi
    ·exact hn.1 hz
    ·exact h z (List.mem_cons_of_mem _ hz) hzi
theorem ShR.oks {x0:Int} {n:Nat} {L:List aD} {y:An} (h:ShR x0 n L y):zB (x0,(n:Int),L,y)=some (true,()):=by
 have hl:=h.len;obtain ⟨b,b2,b3⟩:=alk x0 n L y (by omega) (by omega) (by omega);have:b=true:=b3.2 ⟨h.id,by omega,by rw [dC];exact h.web,by rw [dC];exact h.an⟩;rw [this] at b2;exact b2
theorem aeq {x0 : Int} {n : Nat} {L : List aD} {y : An} (h : ShR x0 n L y) (o : kg) (ho : o.2.2.1.length ≤ 1048576) :
    (qY ((x0, (n : Int), L, y), o) = some (ar1, ()) ∧ (fw n o = false ∨ (o.1 ≠ y.1 ∧ o.1 ≠ y.1 + 1))) ∨
    (qY ((x0, (n : Int), L, y), o) = some (KG x0 n L y, ()) ∧ fw n o = true ∧ o.1 = y.1) ∨
    (fw n o = true ∧ o.1 = y.1 + 1 ∧ ∃ (L' : List aD) (z : An), qY ((x0, (n : Int), L, y), o) = some (KG x0 n L' z, ()) ∧ ShR x0 n L' z ∧ Dne n L L' o z) := by
  have b2 := h.oks;obtain ⟨hL, h1, h2, hy0, hy1⟩ := h.len;have hO2 := Kq n o ho;have hg := h.web.gr;have hn12 := O5 hg;have e2 := aoy BIG (x0, (n : Int), L, y) o;have f2 : Xk BIG ((x0, (n : Int), L, y), o) = qY ((x0, (n : Int), L, y), o) := rfl;rw [f2] at e2;rw [b2, aa] at e2;simp only [bz, aj, hO2, aa] at e2;cases hob : fw n o with
  | false =>
    rw [hob] at e2;exact .inl ⟨e2, .inl rfl⟩
  | true =>
    rw [hob] at e2;simp only [bz, aj] at e2;by_cases hn : o.1 = y.1
    · rw [ah hn, Wj x0 n L y (by omega) (by omega) (by omega), lK y (by omega) (by omega)] at e2
      exact .inr (.inl ⟨e2, rfl, hn⟩)
    · rw [au hn, wr (n := y.1 + 1) (by omega) (by omega)] at e2
      simp only [ik, ai, aa, aj] at e2
      by_cases hw : o.1 = y.1 + 1
      case neg =>
        rw [au hw] at e2;exact .inl ⟨e2, .inr ⟨hn, hw⟩⟩
      rw [ah hw] at e2
      simp only [bz, aj] at e2
      refine .inr (.inr ⟨rfl, hw, ?_⟩)
      -- what follows every change
      have tail : ∀ (M : List aD) (ok : Bool) (es : List Ed) (q : Option ((Int × List aD) × An)), q = some (((n : Int), M), (o.1, ok, es, [])) → WOk n M → jr n es = true →
          (Option.bind q fun x32 =>
  Option.bind (nE x32.1) fun r33 =>
  Option.bind (tN (x0, x32.1.1, x32.1.2, x32.2.1, x32.2.2.1, x32.2.2.2.1, r33.1)) fun r34 =>
  Option.bind (gM (x32.2.1, x32.2.2.1, x32.2.2.2.1, r33.1)) fun r35 =>
  some ((r34.1.1, r34.1.2.1, r34.1.2.2.1, r34.1.2.2.2.1, r34.1.2.2.2.2.1, r34.1.2.2.2.2.2.1, r34.1.2.2.2.2.2.2, r35.1.1, r35.1.2.1, r35.1.2.2.1, r35.1.2.2.2, (0 : Int)), ())) = some (KG x0 n M (o.1, ok, es, labs n (aN M 0)), ()) ∧ ShR x0 n M (o.1, ok, es, labs n (aN M 0)) := by
        intro M ok es q hq hM hes;have hM6 := (ji hM.gr).2.2;have hes6 := dF hes;have hll := dD n (aN M 0);obtain ⟨V', v1', v2', _⟩ := O6 n M (by omega);rw [v2' hM] at v1';have i2 := Wj x0 n M (o.1, ok, es, labs n (aN M 0)) (by omega) (by simp only; omega) (by simp only; omega);have i3 := lK (o.1, ok, es, labs n (aN M 0)) (by simp only; omega) (by simp only; omega);subst hq;simp only [aa, v1', i2, i3];refine ⟨rfl, h.id, hM, .inr ⟨?_, rfl⟩⟩;unfold ek;unfold fw at hob;simp only [aG] at hob ⊢;exact ⟨hob.1, hob.2.1, hes, af0 (jG hM.gr 0)⟩
      have hob' := hob
      unfold fw at hob'
      simp only [aG] at hob'
      obtain ⟨d1, _, d3, d4, d5⟩ := hob'
      have d3' := aC.1 d3
      have hol := dF d4
      have e0 : jr (n : Int) [] = true := by
        unfold jr;rw [if_pos (fun i hi => absurd hi (by simp))];rfl
      obtain ⟨hgE, hgn, _⟩ := ji hg
      have hsrt : zb (gE L) := by
        have h := hg;unfold iq at h;rw [aG] at h;exact (jL h.2).2.1
      by_cases c2' : o.2.1 = 2
      · rw [if_neg (by omega), if_neg (by omega)] at d5
        simp only [aG, decide_eq_true_eq] at d5
        obtain ⟨e, he⟩ := List.length_eq_one_iff.1 d5.1
        obtain ⟨t2, t3⟩ := adb (W := ((n : Int), L)) e (by simp only; omega)
        rw [ah c2', au (show ¬ o.2.1 = 1 from by omega), au (show ¬ o.2.1 = 4 from by omega), he] at e2
        by_cases hin : e ∈ gE L
        · obtain ⟨k1, k2, k3, k4⟩ := Ze h.web hin
          obtain ⟨g2, g3⟩ := tail (pO ((n : Int), L) e).2.1 true [] (Option.bind (jh (((n : Int), L), e)) fun r16 => Option.bind (bif r16.1.2.2.2.2.2 then some (r16.1.1, r16.1.2.1) else some ((n : Int), L)) fun x17 => some (x17, (o.1, r16.1.2.2.2.2.2, [], [])))
            (by rw [t2, aa, k2, ai, aa, k1]) k3 e0
          refine ⟨_, _, e2.trans g2, g3, rfl, rfl, fun hc => by omega, fun _ => ⟨e, he, k4, by rw [ah hin], rfl⟩, fun hc => by omega⟩
        · have k2 := ao1 h.web hin
          obtain ⟨g2, g3⟩ := tail L false [] (Option.bind (jh (((n : Int), L), e)) fun r16 => Option.bind (bif r16.1.2.2.2.2.2 then some (r16.1.1, r16.1.2.1) else some ((n : Int), L)) fun x17 => some (x17, (o.1, r16.1.2.2.2.2.2, [], [])))
            (by rw [t2, aa, k2, aj, aa]) h.web e0
          refine ⟨_, _, e2.trans g2, g3, rfl, rfl, fun hc => by omega, fun _ => ⟨e, he, ?_, by rw [au hin], rfl⟩, fun hc => by omega⟩
          unfold del
          rw [List.filter_eq_self.2]
          intro z hz
          rw [Bool.not_eq_true', decide_eq_false_iff_not]
          rintro rfl
          exact hin hz
      · by_cases c3' : o.2.1 = 3
        · rw [au c2', ah c3', au (show ¬ o.2.1 = 1 from by omega), au (show ¬ o.2.1 = 4 from by omega), aj, aa, aj, aj, ai, zW n L (by omega), aa] at e2
          have hgl : (gE L).length = L.length := by unfold gE; rw [List.length_map]
          have r2 := aep n L (by omega) o.2.2.2 o.1 (gE L) (by omega)
          obtain ⟨k1, k2, k3, k4⟩ := KJ o.2.2.2 (gE L) L [] h.web hgn (fun _ hz => hz)
          have hfe : jr (n : Int) ((gE L).filter (xK o.2.2.2)) = true := by
            by_cases hn2 : 2 ≤ n
            · have hG := aiv hg hn2
              exact Gy ⟨hG.1, hG.2.1, hsrt.filter _, fun z hz => hgE z (List.mem_filter.1 hz).1⟩ (by
                have := List.length_filter_le (xK o.2.2.2) (gE L)
                omega)
            · have : gE L = [] := by
                cases hgl' : gE L with
                | nil => rfl
                | cons z zs =>
                  have := eB (hgE z (by rw [hgl']; exact List.mem_cons_self ..));omega
              rw [this]
              exact e0
          obtain ⟨g2, g3⟩ := tail ((gE L).foldl (gV o.2.2.2) (((n : Int), L), [])).1.2 true ((gE L).filter (xK o.2.2.2)) (some (((gE L).foldl (gV o.2.2.2) (((n : Int), L), [])).1, (o.1, true, ((gE L).foldl (gV o.2.2.2) (((n : Int), L), [])).2, [])))
            (by rw [k4, List.nil_append]; congr 2; exact Prod.ext k1 rfl) k2 hfe
          refine ⟨_, _, e2.trans ((congrArg (fun q => Option.bind q _) r2).trans g2), g3, rfl, rfl, fun hc => by omega, fun hc => by omega, fun _ => ⟨fun x => ?_, rfl, rfl, fun hnil => ?_⟩⟩
          · rw [k3]
            constructor
            · rintro ⟨p1, p2⟩
              refine ⟨p1, ?_⟩
              cases hc : xK o.2.2.2 x with
              | false => rfl
              | true => exact absurd ⟨p1, hc⟩ p2
            · rintro ⟨p1, p2⟩
              exact ⟨p1, fun hc => by rw [p2] at hc; cases hc.2⟩
          · have := Zg o.2.2.2 (gE L) (((n : Int), L), []) hnil
            rw [this]
        · rw [au c2', au c3'] at e2
          have r2 := aiA n L (by omega) o.1 o.2.2.1 (by omega)
          have hc : (bif decide (o.2.1 = (1 : Int)) then some true else some (decide (o.2.1 = (4 : Int))) : Option Bool) = some true := by
            by_cases h : o.2.1 = 1
            · rw [ah h]; rfl
            · rw [au h, ah (show o.2.1 = 4 from by omega)]; rfl
          rw [hc, aa, ai] at e2
          have hee := (jL d4)
          obtain ⟨k1, k2, k3, k4⟩ := KL o.2.2.1 L true h.web hee.1
          obtain ⟨g2, g3⟩ := tail (o.2.2.1.foldl iV (((n : Int), L), true)).1.2 (o.2.2.1.foldl iV (((n : Int), L), true)).2 [] (some ((o.2.2.1.foldl iV (((n : Int), L), true)).1, (o.1, (o.2.2.1.foldl iV (((n : Int), L), true)).2, [], [])))
            (by congr 2; exact Prod.ext k1 rfl) k2 e0
          refine ⟨_, _, e2.trans ((congrArg (fun q => Option.bind q _) r2).trans g2), g3, rfl, rfl, fun _ => ⟨k3, fun hz => k4 (O3 hee.2.1) hz, rfl, fun e he => ?_⟩, fun hc => by omega, fun hc => by omega⟩
          show (o.2.2.1.foldl iV (((n : Int), L), true)).2 = _
          rw [he]
          show (iV (((n : Int), L), true) e).2 = _
          unfold iV
          by_cases hin : e ∈ gE L
          · rw [ah hin]
            simp only [af4 h.web hin, Bool.and_false, bz]
          · rw [au hin]
            simp only [(Zf h.web (hee.1 e (by rw [he]; exact List.mem_singleton.2 rfl)) hin).2.1, Bool.and_self, ik]
section
variable {n:Nat} {own:List Int} {cuts:List Ed} {lab:List (List Int)} {nums:List Int} {said:List Sd} {ss:List uQ} {g:List Ed} {c:Nat} {x5 x6 x7 x8 x9 x10 x11:Int} {x12:List Ed} {x13:Int}
theorem HP.hears {h:Hd} (hp:HP n h ss g c) (hb:shO h≠0) (hc:c<80):∃(L:List aD) (y:An) (L':List aD) (z:An) (h':Hd) (told:Int) (g':List Ed),(1<=shO h/\shO h<=ss.length)/\ss[(shO h-1).toNat]?=some (L,y)/\ShR (shO h) n L y/\(orO h).2.2.1.length<=66 /\
  qY ((shO h,(n:Int),L,y),orO h)=some (KG (shO h) n L' z,())/\ShR (shO h) n L' z/\fw n (orO h)=true/\ek n z=true /\
  heU h (shO h) z=flI h' told/\HP n h' (ss.set (shO h-1).toNat (L',z)) g' (c+1) /\
  ((told=1/\shO h'=0/\∃v,Pb h'=Pb h++[((qO h).1,(qO h).1,(qO h).2.1,(qO h).2.2.1,(qO h).2.2.2,v)]/\Rpl n g (qO h).2.1 (qO h).2.2.1 (qO h).2.2.2 v g')\/(told=2/\shO h'≠0/\Pb h'=Pb h/\g'=g/\qO h'=qO h/\(orO h).2.1=3/\(orO h').2.1=4)):=by
 cases hp with
 | @mk own cuts lab nums said _ _ _ x5 x6 x7 x8 x9 x10 x11 x12 x13 hp hf hc'=>
  have hb:x9≠0:=hb;obtain ⟨r1,L,y,r2,r3,r4,r5⟩:=hp.ord hb hc';obtain ⟨g0,hP⟩:=hp.ply;obtain ⟨hR0,hy⟩:=hP.sh _ _ _ r2;have hsc:(((x9-1).toNat:Nat):Int)+1=x9:=by omega
  rw [hsc] at hR0;have hl66:=hp.x12l;rcases aeq hR0 (x10,x11,x12,x13) (by simp only;omega) with ⟨_,q|q⟩|⟨_,_,q⟩|⟨_,_,L',z,o2,hR,hD⟩
  ·rw [r3] at q;cases q
  ·exact absurd r4 q.2
  ·have q:x10=y.1:=q;omega
  obtain ⟨own',cuts',t5,t6,t7,t8,t9,t10,t11,t12,t13,said',told,g',e1,e2,e3⟩:=alh hp hb r1.1 r2 r4 hR hD;have hz1:z.1=x10:=hD.num;have hza:ek n z=true:=by
   rcases hR.an with hbl|⟨ha,_⟩
   ·unfold xG at hbl;simp only [aG,decide_eq_true_eq] at hbl;have:=hR0.len.2.2.2.1;omega
   ·exact ha
  have hok:O4 (n:Int) own cuts lab nums x5 x6 x7 x8 x9 x10 x11 x12 x13 said x9 z=true:=by
   unfold O4;rw [hp.hd hc',hza,au hb,ah rfl,ah hz1];rfl
  have he:heU ((n:Int),own,cuts,lab,nums,x5,x6,x7,x8,x9,x10,x11,x12,x13,said) x9 z=flI ((n:Int),own',cuts',lab.set (x9-1).toNat z.2.2.2,nums.set (x9-1).toNat z.1,t5,t6,t7,t8,t9,t10,t11,t12,t13,said') told:=by
   show heR (n:Int) own cuts lab nums x5 x6 x7 x8 x9 x10 x11 x12 x13 said x9 z=_;unfold heR;rw [if_pos hok,e1]
  refine ⟨L,y,L',z,_,told,g',r1,r2,hR0,hl66,o2,hR,r3,hza,he,.mk e2 ?_ (by omega),?_⟩
  ·rcases e3 with ⟨_,_,v,rfl,hr⟩|⟨_,_,rfl,rfl,_⟩
   ·exact ada hf hr
   ·exact hf
  ·rcases e3 with ⟨s1,s2,v,s3,hr⟩|⟨s1,s2,s3,s4,s5,s6,s7,s8,s9,s10⟩
   ·exact .inl ⟨s1,s2,v,s3,hr⟩
   ·exact .inr ⟨s1,s2,s3,s4,by show (t5,t6,t7,t8)=(x5,x6,x7,x8);rw [s5,s6,s7,s8],s9,s10⟩
end
theorem ade {S α:Type} (st:S->α->Option S):∀(a:List α) (y:α) (s:S),fM st s (a++[y])=(fM st s a).bind fun s'=>st s' y
 | [],y,s=>by
  show (st s y).bind (fun s'=>some s')=st s y;cases st s y<;>rfl
 | x::a,y,s=>by
  rw [List.cons_append,fM,fM];cases st s x with
  | none=>rfl
  | some s'=>simp only [aa,ade st a y]
def RcB (r:Rc):Prop:=r.2.2.2.2.2.2.2.2.1.length<=66/\r.2.2.2.2.2.2.2.2.2.1.length<=12/\r.2.2.2.2.2.2.2.2.2.2.2.2.1.length<=66
def RcsB (l:List Rc) (i:Nat):Prop:=l.length<=i/\∀r,r∈l->RcB r
theorem RcsB.add {l:List Rc} {i:Nat} (h:RcsB l i) {r:Rc} (hr:RcB r):RcsB (l++[r]) (i+1):=by
 refine ⟨by rw [bq,aX,List.length_nil];have:=h.1;omega,fun x hx => ?_⟩;rcases List.mem_append.1 hx with hx|hx
 ·exact h.2 x hx
 ·rw [List.mem_singleton.1 hx];exact hr
theorem RcsB.up {l:List Rc} {i:Nat} (h:RcsB l i):RcsB l (i+1):=⟨by have:=h.1;omega,h.2⟩
theorem aiB (c : iZ) (hc : bR c) (a : List Int) (ha : a.length ≤ 1048576) (who : Int) : ∃ (n K : Nat) (h : Hd) (ss : List uQ) (g : List Ed) (k : Nat) (hr own : List Rc) (c' : iZ),
    Jj (c, a, who) = some (((n : Int), (K : Int), if 0 < who then own else hr), c') ∧ bR c' ∧ (2 ≤ n ∧ n ≤ 12) ∧ (1 ≤ K ∧ K ≤ 3) ∧ RcsB hr 40 ∧ RcsB own 40 ∧ HP n h ss g k ∧ fM V6 (hdN n K) hr = some h := by
  have hm : maxLen = 9223372036854775807 := by decide
  show ∃ n K h ss g k hr own c', Ji BIG _ = _ ∧ _;rw [ahz];obtain ⟨n0, c0, k0, o0, hn2, hn12⟩ := aoD c hc;obtain ⟨n, rfl⟩ : ∃ n : Nat, n0 = (n : Int) := ⟨n0.toNat, by omega⟩
  obtain ⟨r1, c1, k1, o1, a1, b1, _⟩ := bF c0 3 o0 (by omega);have b1 := b1 (by omega);obtain ⟨K, hK⟩ : ∃ K : Nat, 1 + r1 = (K : Int) := ⟨(1 + r1).toNat, by omega⟩
  rw [k0, aa];simp only;rw [k1, aa];simp only;rw [wr (n := 1 + r1) (by omega) (by omega), hK];rw [aiz (by omega) (by omega) (by omega) (by omega), aa];simp only [flH];have hP0 := HP.new (n := n) (k := K) (by omega) (by omega) (by omega) (by omega);generalize hh0 : hdN n K = h0 at hP0 ⊢;refine eD (P := fun o => ∃ (n' K' : Nat) (h : Hd) (ss : List uQ) (g : List Ed) (k : Nat) (hr own : List Rc) (c' : iZ), o = some (((n' : Int), (K' : Int), if 0 < who then own else hr), c') ∧ bR c' ∧ (2 ≤ n' ∧ n' ≤ 12) ∧ (1 ≤ K' ∧ K' ≤ 3) ∧ RcsB hr 40 ∧ RcsB own 40 ∧ HP n' h ss g k ∧ fM V6 (hdN n' K') hr = some h)
    (fun (s : List Shr × Int) => ∃ (i : Nat), s.2 = (i : Int) ∧ 1 ≤ i ∧ i ≤ K + 1 ∧ s.1.length + 1 = i ∧ ∀ j, j < s.1.length → s.1[j]? = some ((j : Int) + 1, (n : Int), [], (0, false, [], []))) (fun s => 8 - s.2.toNat)
    (fun _ (S : List Shr) => S.length = K ∧ ∀ j, j < S.length → S[j]? = some ((j : Int) + 1, (n : Int), [], (0, false, [], []))) (by simp [BIG]) ⟨1, rfl, by omega, by omega, rfl, fun j hj => absurd hj (by simp)⟩ (fun self s hx hs => ?_) (fun b hb => ?_)
  · obtain ⟨S, j⟩ := s
    obtain ⟨i, h1, hi1, hi, hl, hS⟩ := hx
    simp only at h1 hl hS hs ⊢
    subst h1
    by_cases hik : i ≤ K
    · rw [ah (by omega), ai, aeh, if_pos (by rw [aC.2 (by omega), aC.2 (by omega)]; rfl), aa]
      rw [ah (by simp only [aX, List.length_nil]; omega), ai, bX (by omega)]
      refine hs _ ⟨i + 1, rfl, by omega, by omega, by simp only [bq, aX, List.length_nil]; omega, fun j hj => ?_⟩ (by simp; omega)
      simp only [bq, aX, List.length_nil] at hj
      simp only
      by_cases hjl : j < S.length
      · rw [List.getElem?_append_left hjl]
        exact hS j hjl
      · rw [List.getElem?_append_right (by omega), show j - S.length = 0 by omega, show (j : Int) + 1 = (i : Int) by omega]
        rfl
    · rw [au (by omega), aj]
      exact ⟨_, rfl, by omega, hS⟩
  · obtain ⟨hS1, hS2⟩ := hb
    have hSL0 : SLR n b (List.replicate K ([], (0, false, [], []))) := by
      refine ⟨by rw [List.length_replicate]; exact hS1, fun j L y hj => ?_⟩;have hjl := (aY hj).1;rw [List.length_replicate] at hjl;have := List.mem_of_getElem? hj;rw [List.mem_replicate] at this;cases this.2;exact hS2 j (by omega)
    obtain ⟨v, s1, s2, s3⟩ := aiy a ha
    have hv2 : Int.tdiv v 2 = v / 2 := Int.tdiv_eq_ediv_of_nonneg s2
    refine eD (P := fun o => ∃ (n' K' : Nat) (h : Hd) (ss : List uQ) (g : List Ed) (k : Nat) (hr own : List Rc) (c' : iZ), o = some (((n' : Int), (K' : Int), if 0 < who then own else hr), c') ∧ bR c' ∧ (2 ≤ n' ∧ n' ≤ 12) ∧ (1 ≤ K' ∧ K' ≤ 3) ∧ RcsB hr 40 ∧ RcsB own 40 ∧ HP n' h ss g k ∧ fM V6 (hdN n' K') hr = some h)
      (fun (s : iZ × Hd × List Rc × List Shr × List Rc × Int) => ∃ (i : Nat) (ss : List uQ) (g : List Ed), s.2.2.2.2.2 = (i : Int) ∧ i ≤ 40 ∧ bR s.1 ∧ SLR n s.2.2.2.1 ss ∧ HP n s.2.1 ss g i ∧ RcsB s.2.2.1 i ∧ RcsB s.2.2.2.2.1 i ∧ fM V6 h0 s.2.2.1 = some s.2.1) (fun s => 40 - s.2.2.2.2.2.toNat)
      (fun _ (b : iZ × List Rc × List Rc) => ∃ (h : Hd) (ss : List uQ) (g : List Ed) (k : Nat), bR b.1 ∧ HP n h ss g k ∧ RcsB b.2.1 40 ∧ RcsB b.2.2 40 ∧ fM V6 h0 b.2.1 = some h) (by simp [BIG]) ⟨0, _, _, rfl, by omega, o1, hSL0, hP0, ⟨by simp, fun r hr => (by cases hr)⟩, ⟨by simp, fun r hr => (by cases hr)⟩, rfl⟩ (fun self s hx hs => ?_) (fun b hb => ?_)
    · obtain ⟨cu, h, hl, S, own, j⟩ := s
      obtain ⟨i, ss, g, h1, hi, hcu, hSL, hP, hRh, hRo, hF⟩ := hx
      simp only at h1 hcu hSL hP hRh hRo hF hs ⊢
      subst h1
      obtain ⟨r6, c6, k6, o6, a6, b6, b6'⟩ := bF cu (v / 2) hcu (by omega)
      rw [s1, aa, au (by omega), aj]
      simp only
      rw [hv2, wr (n := v / 2) (by omega) (by omega), k6, aa]
      simp only
      have hr6 : r6 ≤ 30 := by
        by_cases h : 0 < v / 2
        · have := b6 h; omega
        · have := b6' (by omega); omega
      rw [wr (n := 2 + r6) (by omega) (by omega)]
      have up40 : ∀ {l : List Rc}, RcsB l i → RcsB l 40 := fun h => ⟨by have := h.1; omega, h.2⟩
      by_cases hiv : (i : Int) < 2 + r6
      case neg =>
        rw [au hiv, aj];exact ⟨_, rfl, h, ss, g, i, o6, hP, up40 hRh, up40 hRo, hF⟩
      rw [ah hiv, ai]
      have hz := hP.sz
      have hlen := hP.len
      have hlh := hRh.1
      have hlo := hRo.1
      rw [ao0 h, aa]
      by_cases hb : shO h = 0
      · rw [ah hb]
        simp only [bz, ik, ai]
        rw [bX (by omega)]
        obtain ⟨op, a', b', c7, k7, o7⟩ := Pd c6 o6 (n : Int) (K : Int) ((i + 1 : Nat) : Int) (by omega) (by omega)
        rw [k7, aa]
        simp only
        rw [aoP hz, aa]
        obtain ⟨h', told, g', e1, e2, _⟩ := hP.take (by omega) ((i + 1 : Nat) : Int) op a' b'
        rw [e1]
        have hx : ∃ (h2 : Hd) (bb : Bool), (bif !decide (told = (0 : Int)) then
          bif decide ((0 : Int) ≤ a') then
           some (h', decide ((0 : Int) ≤ b'))
          else some (h', false)
         else some (h', false) : Option (Hd × Bool)) = some (h2, bb) ∧ h2 = h' ∧ (bb = true → told ≠ 0) := by
          by_cases ht : told = 0
          · rw [ah ht]
            exact ⟨h', false, rfl, rfl, fun h => by cases h⟩
          · rw [au ht]
            by_cases h0' : 0 ≤ a'
            · rw [ah h0']
              exact ⟨h', _, rfl, rfl, fun _ => ht⟩
            · rw [au h0']
              exact ⟨h', _, rfl, rfl, fun _ => ht⟩
        obtain ⟨h2, bb, hx, hh2, hbt⟩ := hx
        subst hh2
        simp only [flI]
        rw [hx, aa]
        simp only
        cases bb with
        | false =>
          simp only [aj, aa];exact hs _ ⟨i + 1, ss, g, rfl, by omega, o7, hSL, hP.up (by omega), hRh.up, hRo.up, hF⟩ (by simp; omega)
        | true =>
          simp only [ai];rw [ah (by simp only [aX, List.length_nil]; omega), ai, aa, aa];refine hs _ ⟨i + 1, ss, g', rfl, by omega, o7, hSL, e2, hRh.add ⟨by simp, by simp, by simp⟩, hRo.up, ?_⟩ (by simp; omega);simp only;rw [ade, hF, aa];exact ams e1 (hbt rfl)
      · rw [au hb]
        simp only [ik, bz, aj]
        obtain ⟨L, y, L', z, h', told, g', q1, q2, q3, q4, q6, q7, q8, q9, q10, q11, q12⟩ := hP.hears hb (by omega)
        obtain ⟨p1, p2⟩ := hSL.at q1.1 q2
        have hzl := q7.len
        have q6' : qY ((shO h, (n : Int), L, y), (h.2.2.2.2.2.2.2.2.2.2.1, h.2.2.2.2.2.2.2.2.2.2.2.1, h.2.2.2.2.2.2.2.2.2.2.2.2.1, h.2.2.2.2.2.2.2.2.2.2.2.2.2.1)) = some (KG (shO h) n L' z, ()) := q6
        have hw1 : IntKind.wrap .i64 (h.2.2.2.2.2.2.2.2.2.1 - 1) = shO h - 1 := wr (n := shO h - 1) (by omega) (by omega)
        rw [hw1, cO (by omega) (by omega), p2, aa, q6', aa, cO (by omega) (by omega), p2, aa]
        have hne : told ≠ 0 := by
          rcases q12 with ⟨r, _⟩ | ⟨r, _⟩ <;> omega
        have hown : ∃ own', (bif decide (h.2.2.2.2.2.2.2.2.2.1 = who) then
        bif decide (own.length + ([((3 : Int), (0 : Int), (0 : Int), (0 : Int), (0 : Int), (0 : Int), (0 : Int), false, ([] : List (Int × Int)), ([] : List Int), h.2.2.2.2.2.2.2.2.2.2.1, h.2.2.2.2.2.2.2.2.2.2.2.1, h.2.2.2.2.2.2.2.2.2.2.2.2.1, h.2.2.2.2.2.2.2.2.2.2.2.2.2.1)]).length ≤ 4294967296) then
         some (own ++ ([((3 : Int), (0 : Int), (0 : Int), (0 : Int), (0 : Int), (0 : Int), (0 : Int), false, [], [], h.2.2.2.2.2.2.2.2.2.2.1, h.2.2.2.2.2.2.2.2.2.2.2.1, h.2.2.2.2.2.2.2.2.2.2.2.2.1, h.2.2.2.2.2.2.2.2.2.2.2.2.2.1)]))
        else none
       else some own : Option (List Rc)) = some own' ∧ RcsB own' (i + 1) := by
          by_cases hw : h.2.2.2.2.2.2.2.2.2.1 = who
          · rw [ah hw, ai, ah (by simp only [aX, List.length_nil]; omega), ai]
            exact ⟨_, rfl, hRo.add ⟨by simp, by simp, q4⟩⟩
          · rw [au hw, aj]
            exact ⟨_, rfl, hRo.up⟩
        obtain ⟨own', hown, hRo'⟩ := hown
        rw [hown, aa]
        have hh : Gj (h, h.2.2.2.2.2.2.2.2.2.1, ((KG (shO h) (n : Int) L' z).2.2.2.2.2.2.2.1, (KG (shO h) (n : Int) L' z).2.2.2.2.2.2.2.2.1, (KG (shO h) (n : Int) L' z).2.2.2.2.2.2.2.2.2.1, (KG (shO h) (n : Int) L' z).2.2.2.2.2.2.2.2.2.2.1)) = some (flI h' told, ()) := (aoQ hz (shO h) z (by omega) (by omega)).trans (by rw [q10])
        rw [hh, aa, ah (by simp only [aX, List.length_nil]; omega), ai, aa]
        simp only
        rw [bX (by omega)]
        refine hs _ ⟨i + 1, ss.set (shO h - 1).toNat (L', z), g', rfl, by omega, o6, hSL.set q1.1 L' z, q11, hRh.add ⟨by show z.2.2.1.length ≤ 66; omega, by show z.2.2.2.length ≤ 12; omega, by simp⟩, hRo', ?_⟩ (by simp; omega)
        simp only
        rw [ade, hF, aa]
        exact amt q10 hne
    · obtain ⟨cu, hr, own⟩ := b
      obtain ⟨h, ss, g, k, q1, q2, q3, q4, q5⟩ := hb
      simp only at q1 q3 q4 q5 ⊢
      by_cases hw : 0 < who
      · rw [ah hw, ai]
        exact ⟨n, K, h, ss, g, k, hr, own, cu, by rw [if_pos hw], q1, by omega, by omega, q3, q4, q2, by rw [hh0]; exact q5⟩
      · rw [au hw, aj]
        exact ⟨n, K, h, ss, g, k, hr, own, cu, by rw [if_neg hw], q1, by omega, by omega, q3, q4, q2, by rw [hh0]; exact q5⟩
theorem Wn (o:kg) (h:o.2.2.1.length<=1048576):jZ o=some (o,()):=by
 show mO BIG _=_;rw [Dc,ah (by simp;omega)];rfl
theorem Z4 {r:Rc} (h:RcB r):xY r=some (r,()):=by
 obtain ⟨h1,h2,h3⟩:=h;show xX BIG _=_;rw [Zt,lK (r.2.2.2.2.2.2.1,r.2.2.2.2.2.2.2.1,r.2.2.2.2.2.2.2.2.1,r.2.2.2.2.2.2.2.2.2.1) (by simp only;omega) (by simp only;omega),aa,Wn _ (by omega),aa]
theorem aln (c:iZ) (hc:bR c) (a:List Int) (ha:a.length<=1048576):∃(n:Nat) (r:Rc) (c':iZ),Du (c,a)=some (((n:Int),r),c')/\bR c'/\RcB r:=by
 show ∃n r c',NV BIG _=_/\_;rw [akj];obtain ⟨r0,c0,k0,o0,_⟩:=bF c 2 hc (by omega);obtain ⟨n,K,hd,ss,g,k,hr,own,c1,k1,o1,hn,hK,hRh,hRo,_,_⟩:=aiB c0 o0 a ha r0;rw [k0,aa];simp only;rw [k1,aa];simp only;have hl:RcsB (if 0<r0 then own else hr) 40:=by
  split
  ·exact hRo
  ·exact hRh
 generalize (if 0<r0 then own else hr)=l at hl ⊢;obtain ⟨hl1,hl2⟩:=hl;by_cases h0:l.length=0
 ·rw [ah (by omega),ai];obtain ⟨op,a',b',c2,k2,o2⟩:=Pd c1 o1 (n:Int) 2 1 (by omega) (by omega);rw [k2,aa];exact ⟨n,_,_,rfl,o2,by simp,by simp,by simp⟩
 rw [au (by omega),aj];obtain ⟨r3,c3,k3,o3,a3,b3,_⟩:=bF c1 (l.length:Int) o1 (by omega);have b3:=b3 (by omega);have hlt:r3.toNat<l.length:=by omega
 have hB:=hl2 _ (List.getElem_mem hlt);rw [k3,aa,cO a3 (by omega),aR hlt,aa,Z4 hB,aa];generalize l[r3.toNat]=r at hB ⊢;obtain ⟨B1,B2,B3⟩:=hB;obtain ⟨r7,c7,k7,o7,_⟩:=bF c3 20 o3 (by omega);simp only;rw [k7,aa];simp only;by_cases q0:r7=0
 ·obtain ⟨x,c8,k8,o8⟩:=dh c7 [0,1,2,3,4] o7 (by simp) (by simp);rw [ah q0,ai,k8,aa,aa];exact ⟨n,_,_,rfl,o8,B1,B2,B3⟩
 rw [au q0,aj];by_cases q1:r7=1
 ·obtain ⟨x,c8,k8,o8⟩:=dh c7 [-1,0,1,100001] o7 (by simp) (by simp);rw [ah q1,ai,k8,aa,aa];exact ⟨n,_,_,rfl,o8,B1,B2,B3⟩
 rw [au q1,aj];by_cases q2:r7=2
 ·obtain ⟨op,a',b',c8,k8,o8⟩:=Pd c7 o7 (n:Int) 2 5 (by omega) (by omega);rw [ah q2,ai,k8,aa,aa];exact ⟨n,_,_,rfl,o8,B1,B2,B3⟩
 rw [au q2,aj];by_cases q3:r7=3
 ·obtain ⟨o,c8,k8,o8,hol⟩:=XO c7 n o7 (by omega) (by omega);rw [ah q3,ai,k8,aa,aa];exact ⟨n,_,_,rfl,o8,B1,B2,by show o.2.2.1.length<=66;omega⟩
 rw [au q3,aj];by_cases q4:r7=4
 ·obtain ⟨y,c8,k8,o8,y1,y2⟩:=V9 c7 n o7 (by omega) (by omega);rw [ah q4,ai,k8,aa,aa];exact ⟨n,_,_,rfl,o8,by show y.2.2.1.length<=66;omega,y2,B3⟩
 ·rw [au q4,aj,aa];exact ⟨n,_,_,rfl,o7,B1,B2,B3⟩
theorem aer (a:List Int) (h:a.length<=maxLen):Y4 a=some (true,()):=by
 have hm:maxLen=9223372036854775807:=by decide
 show OI BIG _=_;rw [akv,aqg,aa];by_cases ha:a.length<=1048576;case neg=>rw [ah (by omega)];rfl
 rw [au (by omega),aj];obtain ⟨c,k0,hc⟩:=akA a ha;obtain ⟨n,r,c1,k1,o1,hB⟩:=aln c hc a ha;have e1:vS a=some (((n:Int),r),()):=by
  show vR BIG _=_;rw [Xt,k0,aa,k1,aa]
 obtain ⟨B1,B2,B3⟩:=hB;have t1:=zY (n:Int) r (by omega) (by omega) (by omega);have t2:=VU (n:Int) r (by omega) (by omega) (by omega)
 -- the bytes of it
 obtain ⟨U,hU,hUl⟩:∃U:List UInt8,(gI (iy n r)).1=BA U/\U.length<=400:=by
  cases hT:iy (n:Int) r with
  | none=>exact ⟨[],rfl,by simp⟩
  | some T=>exact ⟨T,rfl,(afN hT).2⟩
 obtain ⟨V,c3,k3,_,hV⟩:=ac3 c1 U o1 (by omega);have e2:wm a=some (((n:Int),BA V),()):=by
  show wh BIG _=_;rw [XB,k0,aa];simp only;rw [k1,aa];simp only;rw [t2,aa];dsimp only;rw [hU,k3,aa]
 have v1:=VX (n:Int) V (by omega);have v2:=ain (n:Int) V (by omega);have s1:=Z0 (r.2.2.2.2.2.2.1,r.2.2.2.2.2.2.2.1,r.2.2.2.2.2.2.2.2.1,r.2.2.2.2.2.2.2.2.2.1) (by simp only;omega) (by simp only;omega);have s2:=OM r.2.2.2.2.2.2.2.2.2.2.2.2.1 r.2.2.2.2.2.2.2.2.2.2.2.2.1 (by omega);rw [ah rfl] at s2;rw [e1,aa];simp only;rw [t1,aa];dsimp only;rw [hU,VX (n:Int) U (by omega),aa,t2,aa];dsimp only
 -- the first half
 have h1:(bif !((gI (iy (n:Int) r)).2 == (gI (iy (n:Int) r)).2) then some true
  else bif (gI (iy (n:Int) r)).2 then
   bif !(ko (lY (n:Int) U)).2.2.2.2.2.2.2.2.2.2.2.2.2.2 then
    some true
   else bif !decide ((ko (lY (n:Int) U)).1=r.1) then
    some true
   else bif !(decide ((ko (lY (n:Int) U)).2.1=r.2.1)&&(decide ((ko (lY (n:Int) U)).2.2.1=r.2.2.1)&&(decide ((ko (lY (n:Int) U)).2.2.2.1=r.2.2.2.1)&&(decide ((ko (lY (n:Int) U)).2.2.2.2.1=r.2.2.2.2.1)&&true)))) then
    some true
   else bif !decide ((ko (lY (n:Int) U)).2.2.2.2.2.1=r.2.2.2.2.2.1) then
    some true
   else Option.bind (pW (((ko (lY (n:Int) U)).2.2.2.2.2.2.1,(ko (lY (n:Int) U)).2.2.2.2.2.2.2.1,(ko (lY (n:Int) U)).2.2.2.2.2.2.2.2.1,(ko (lY (n:Int) U)).2.2.2.2.2.2.2.2.2.1),(r.2.2.2.2.2.2.1,r.2.2.2.2.2.2.2.1,r.2.2.2.2.2.2.2.2.1,r.2.2.2.2.2.2.2.2.2.1))) fun r5=>
   bif !r5.1 then
    some true
   else bif !decide ((ko (lY (n:Int) U)).2.2.2.2.2.2.2.2.2.2.1=r.2.2.2.2.2.2.2.2.2.2.1) then
    some true
   else Option.bind (nI ((ko (lY (n:Int) U)).2.2.2.2.2.2.2.2.2.2.2.2.1,r.2.2.2.2.2.2.2.2.2.2.2.2.1)) fun r6=>
   some !r6.1
  else some false:Option (Bool))=some false:=by
   rw [beq_self_eq_true];cases hT:iy (n:Int) r with
   | none=>rfl
   | some T=>
    rw [hT] at hU;have hUT:U=T:=(aqk hU).symm;subst hUT;rw [alc hT];simp only [gI,ko,bz,aj,ai,decide_true,Bool.and_self,s1,s2,aa]
 refine Eq.trans (congrArg (fun o=>Option.bind o _) h1) ?_;rw [aa,aj,e2,aa];simp only;rw [v1,aa,v2,aa];cases hD:lY (n:Int) V with
 | none=>
  have:=zY (n:Int) (0,0,0,0,0,0,0,false,[],[],0,0,[],0) (by simp) (by simp) (by simp);simp only [ko];rw [this,aa];rfl
 | some x=>
  obtain ⟨l1,l2,l3⟩:=aq4 _ _ _ hD;have:=zY (n:Int) x (by omega) (by omega) (by omega);rw [amr hD] at this;simp only [ko];rw [this,aa];simp only [gI,beq_self_eq_true,ai,bz,aj,aa]
end Go.Fw
