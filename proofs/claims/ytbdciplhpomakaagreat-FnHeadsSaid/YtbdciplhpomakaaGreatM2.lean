/- What the given functions come to. No conditions. -/
import Derived.Test.YtbdciplhpomakaaGreatM1
set_option linter.unusedVariables false
set_option linter.unusedSimpArgs false
set_option linter.unusedSectionVars false
namespace Go.Fw
section
variable {M:List az} {s:Int->Bool} {k:Int} (k3:k<=3)
include k3
theorem Ch {j:Int} (hj:j≠k+1) {f:Ed}:f∈aG (M.map (f1 s k)) j↔f∈aG M j:=by
 rw [fe,fe];constructor
 ·rintro ⟨y',hy',ht,hl,he⟩;obtain ⟨y,hy,rfl⟩:=List.mem_map.1 hy';by_cases c:y.2.2.2=true/\y.2.2.1=k/\s y.1=true
  ·rw [u6 k3 c] at ht hl he;simp only at ht hl he;exact ⟨y,hy,c.1,by omega,he⟩
  ·rw [qL c] at ht hl he;exact ⟨y,hy,ht,hl,he⟩
 ·rintro ⟨y,hy,ht,hl,he⟩;refine ⟨f1 s k y,List.mem_map.2 ⟨y,hy,rfl⟩,?_⟩;by_cases c:y.2.2.2=true/\y.2.2.1=k/\s y.1=true
  ·rw [u6 k3 c];exact ⟨rfl,by simp only;omega,he⟩
  ·rw [qL c];exact ⟨ht,hl,he⟩
theorem Ci {f:Ed}:f∈aG (M.map (f1 s k)) (k+1)↔f∈aG M (k+1)\/(f∈aG M k/\s f.1=true):=by
 rw [fe,fe,fe];constructor
 ·rintro ⟨y',hy',ht,hl,he⟩;obtain ⟨y,hy,rfl⟩:=List.mem_map.1 hy';by_cases c:y.2.2.2=true/\y.2.2.1=k/\s y.1=true
  ·rw [u6 k3 c] at ht hl he;simp only at ht hl he;exact .inr ⟨⟨y,hy,c.1,by omega,he⟩,by rw [<-he];exact c.2.2⟩
  ·rw [qL c] at ht hl he;exact .inl ⟨y,hy,ht,hl,he⟩
 ·rintro (⟨y,hy,ht,hl,he⟩|⟨⟨y,hy,ht,hl,he⟩,hsf⟩)
  ·refine ⟨f1 s k y,List.mem_map.2 ⟨y,hy,rfl⟩,?_⟩;rw [qL (fun c=>by omega)];exact ⟨ht,hl,he⟩
  ·refine ⟨f1 s k y,List.mem_map.2 ⟨y,hy,rfl⟩,?_⟩;by_cases c:y.2.2.2=true/\y.2.2.1=k/\s y.1=true
   ·rw [u6 k3 c];exact ⟨rfl,by simp only;omega,he⟩
   ·rw [qL c];refine ⟨ht,?_,he⟩;have:y.2.2.1≠k:=fun h=>c ⟨ht,h,by rw [<-he] at hsf;exact hsf⟩
    omega
theorem akR {j:Int} {f:Ed} (h:f∈aG M j):f∈aG (M.map (f1 s k)) j:=by
 by_cases hj:j=k+1
 ·subst hj;exact (Ci k3).2 (.inl h)
 ·exact (Ch k3 hj).2 h
theorem A9 {y:az} (ht:y.2.2.2=false):y∈M.map (f1 s k)↔y∈M:=by
 constructor
 ·intro hy';obtain ⟨y0,hy,rfl⟩:=List.mem_map.1 hy';by_cases c:y0.2.2.2=true/\y0.2.2.1=k/\s y0.1=true
  ·rw [u6 k3 c] at ht;cases ht
  ·rw [qL c];exact hy
 ·intro hy;exact List.mem_map.2 ⟨y,hy,qL (fun c=>by rw [ht] at c;cases c.1)⟩
theorem am_ (h:∀x,x∈M->0<=x.2.2.1/\x.2.2.1<=4) (k0:0<=k):∀x,x∈M.map (f1 s k)->0<=x.2.2.1/\x.2.2.1<=4:=by
 intro x hx;obtain ⟨y,hy,rfl⟩:=List.mem_map.1 hx;by_cases c:y.2.2.2=true/\y.2.2.1=k/\s y.1=true
 ·rw [u6 k3 c];simp only;omega
 ·rw [qL c];exact h y hy
end
section
variable {n:Nat} {M:List az} {e:Ed} {k:Nat} (hI:Inv n M e (k:Int)) (k3:(k:Int)<=3) (ha:0<=e.1/\e.1<n) (hb:0<=e.2/\e.2<n)
 {r o:Int} (hro:(r=e.1/\o=e.2)\/(r=e.2/\o=e.1)) (hsm:cz n (aG M k) r<=cz n (aG M k) o)
 {s:Int->Bool} (hs:∀x:Int,0<=x/\x<n->(s x=true↔Con (aG M k) r x))
include hI k3 ha hb hro hsm hs
theorem Y_ {x:Int} (h:Con (aG M k) r x):Con (aG (M.map (f1 s k)) ((k:Int)+1)) r x:=by
 have hr:0<=r/\r<n:=by rcases hro with ⟨rfl,rfl⟩|⟨rfl,rfl⟩<;>assumption
 induction h with
 | refl=>exact .refl _
 | fwd hc hm ih=>
  refine .fwd ih ((Ci k3).2 (.inr ⟨hm,?_⟩));exact (hs _ (hI.rgE hm).1).2 hc
 | bwd hc hm ih=>
  refine .bwd ih ((Ci k3).2 (.inr ⟨hm,?_⟩));exact (hs _ (hI.rgE hm).1).2 (.bwd hc hm)
theorem ap_ {v x:Int} (hv:¬Con (aG M k) r v) (h:Con (aG (M.map (f1 s k)) ((k:Int)+1)) v x):Con (aG M ((k:Int)+1)) v x:=by
 have hsub:∀{x y:Int},Con (aG M ((k:Int)+1)) x y->Con (aG M k) x y:=fun h=>h.mono (qh (by omega))
 induction h with
 | refl=>exact .refl _
 | fwd hc hm ih=>
  rcases (Ci k3).1 hm with hm|⟨hm,hsf⟩
  ·exact .fwd ih hm
  ·exfalso;exact hv (((hs _ (hI.rgE hm).1).1 hsf).trans (hsub ih).symm)
 | bwd hc hm ih=>
  rcases (Ci k3).1 hm with hm|⟨hm,hsf⟩
  ·exact .bwd ih hm
  ·exfalso;exact hv ((Con.fwd ((hs _ (hI.rgE hm).1).1 hsf) hm).trans (hsub ih).symm)
theorem acd (j:Int):kz n (aG (M.map (f1 s k)) j):=fun f hf=>by
 by_cases hj:j=(k:Int)+1
 ·subst hj
  rcases (Ci k3).1 hf with h|h
  ·exact hI.ein _ f h
  ·exact hI.ein _ f h.1
 ·exact hI.ein _ f ((Ch k3 hj).1 hf)
theorem ana (j:Nat) (j1:1<=j) (j4:j<=4):∀f,f∈aG (M.map (f1 s k)) j->cz n (aG (M.map (f1 s k)) j) f.1<=n / 2 ^ j:=by
 intro f hf;have hein:=acd hI k3 ha hb hro hsm hs;have hr:0<=r/\r<n:=by rcases hro with ⟨rfl,rfl⟩|⟨rfl,rfl⟩<;>assumption
 by_cases hj:(j:Int)=(k:Int)+1
 ·have hjk:j=k+1:=by omega
  subst hjk;have hcast:((k+1:Nat):Int)=(k:Int)+1:=by omega
  rw [hcast] at hf ⊢;by_cases hc:Con (aG M k) r f.1
  ·refine Nat.le_trans (kS (hein _) (hI.ein k) ?_ hr fun x hx=>hc.trans (hx.sub fun g hg => ?_)) (hI.half ha hb hro hsm)
   ·exact (hc.range (hI.ein k) hr)
   ·rcases (Ci k3).1 hg with h|h
    ·exact .of (qh (by omega) g h)
    ·exact .of h.1
  ·have hf':f∈aG M ((k:Int)+1):=by
    rcases (Ci k3).1 hf with h|⟨h,h'⟩
    ·exact h
    ·exact absurd ((hs _ (hI.rgE h).1).1 h') hc
   have:=hI.sz (k+1) j1 j4 f (by rw [hcast];exact hf');rw [hcast] at this;exact Nat.le_trans (kS (hein _) (hI.ein _) (hI.rgE hf').1 (hI.rgE hf').1 fun x hx=>ap_ hI k3 ha hb hro hsm hs hc hx) this
 ·have hf':=(Ch k3 hj).1 hf;exact Nat.le_trans (kS (hein _) (hI.ein _) (hI.rgE hf').1 (hI.rgE hf').1 fun x hx=>hx.mono fun g hg=>(Ch k3 hj).1 hg) (hI.sz j j1 j4 f hf')
theorem amf {M2:List az} (h2:M2=(M.map (f1 s k)).map fun y=>if dP s k y=1 then iD k y else y) (hno:∀y,y∈M.map (f1 s k)->dP s k y≠2) (hgE:gE M2=gE M):Inv n M2 e ((k:Int)-1):=by
 have hr:0<=r/\r<n:=by rcases hro with ⟨rfl,rfl⟩|⟨rfl,rfl⟩<;>assumption
 have hein:=acd hI k3 ha hb hro hsm hs;have hB:∀(j:Int) (f:Ed),f∈aG M2 j↔f∈aG (M.map (f1 s k)) j:=by
  intro j f;rw [h2,fe,fe];constructor
  ·rintro ⟨y',hy',ht,hl,he⟩;obtain ⟨y,hy,rfl⟩:=List.mem_map.1 hy';by_cases c:dP s k y=1
   ·rw [if_pos c] at ht;have ht':y.2.2.2=true:=ht;unfold dP at c;rw [if_pos (.inl ht')] at c;omega
   ·rw [if_neg c] at ht hl he;exact ⟨y,hy,ht,hl,he⟩
  ·rintro ⟨y,hy,ht,hl,he⟩;refine ⟨y,List.mem_map.2 ⟨y,hy,if_neg fun c => ?_⟩,ht,hl,he⟩;unfold dP at c;rw [if_pos (.inl ht)] at c;omega
 have hlow:∀(j:Int) (f:Ed),j<=k->(f∈aG M2 j↔f∈aG M j):=fun j f hj=>(hB j f).trans (Ch k3 (by omega))
 have hup:∀(j:Int) (f:Ed),f∈aG M j->f∈aG M2 j:=fun j f h=>(hB j f).2 (akR k3 h)
 -- what is no edge of a forest
 have hnon:∀x,x∈M2->x.2.2.2=false->(x∈M/\dP s k x≠1)\/∃y,y∈M/\y.2.2.2=false/\dP s k y=1/\x=iD k y:=by
  intro x hx ht;rw [h2] at hx;obtain ⟨y,hy,rfl⟩:=List.mem_map.1 hx;by_cases c:dP s k y=1
  ·rw [if_pos c] at ht ⊢;exact .inr ⟨y,(A9 k3 (show y.2.2.2=false from ht)).1 hy,ht,c,rfl⟩
  ·rw [if_neg c] at ht ⊢;exact .inl ⟨(A9 k3 ht).1 hy,c⟩
 have hrz:∀y:az,(iD k y).2.2.1=(k:Int)+1:=fun y=>by
  unfold iD Ns;rw [if_neg (by omega)]
 have hp1:∀y:az,y∈M->dP s k y=1->Con (aG M k) r y.1/\Con (aG M k) r y.2.1:=by
  intro y hy c;unfold dP at c;obtain ⟨g1,g2⟩:=hI.rg hy;split at c
  ·omega
  ·split at c
   ·rename_i h;exact ⟨(hs _ g1).1 h.1,(hs _ g2).1 h.2⟩
   ·omega
 refine ⟨by rw [hgE];exact hI.gr,?_,hI.nc.sub fun f hf=>(hlow 0 f (by omega)).1 hf,fun h=>hI.dis (h.mono fun f hf=>(hlow 0 f (by omega)).1 hf),?_,?_,?_,?_⟩
 ·intro x hx;rw [h2] at hx;obtain ⟨y,hy,rfl⟩:=List.mem_map.1 hx;by_cases c:dP s k y=1
  ·rw [if_pos c,hrz];omega
  ·rw [if_neg c];exact am_ k3 hI.lv (by omega) y hy
 ·intro x hx ht hlv;rcases hnon x hx ht with ⟨hxM,c⟩|⟨y,hy,hty,c,rfl⟩
  ·by_cases hk:x.2.2.1=k
   ·-- off the lesser side
    have hp:s x.1=false/\s x.2.1=false:=by
     have h2':=hno x ((A9 k3 ht).2 hxM);unfold dP at c h2';split at c
     ·rename_i h;rcases h with h|h|h
      ·rw [ht] at h;cases h
      ·exact absurd hk h
      ·exact h
     ·rename_i h;rw [if_neg h] at h2';split at c
      ·exact absurd rfl c
      ·rename_i h';rw [if_neg h'] at h2';exact absurd rfl h2'
    obtain ⟨g1,g2⟩:=hI.rg hxM;have n1:¬Con (aG M k) r x.1:=fun h=>by
     have:=(hs _ g1).2 h;rw [hp.1] at this;cases this
    have n2:¬Con (aG M k) r x.2.1:=fun h=>by
     have:=(hs _ g2).2 h;rw [hp.2] at this;cases this
    have:=hI.lo x hxM ht (by omega);rw [hk] at this ⊢;rcases (Om hro).1 this with h|⟨h,_⟩|⟨_,h⟩
    ·exact h.mono fun f hf=>hup k f hf
    ·exact absurd h.symm n1
    ·exact absurd h n2
   ·exact (hI.hi x hxM ht (by omega)).mono fun f hf=>hup _ f hf
  ·rw [hrz];obtain ⟨c1,c2⟩:=hp1 y hy c;have u1:=Y_ hI k3 ha hb hro hsm hs c1;have u2:=Y_ hI k3 ha hb hro hsm hs c2;exact (u1.symm.trans u2).mono fun f hf=>(hB _ f).2 hf
 ·intro x hx ht hlv;rcases hnon x hx ht with ⟨hxM,c⟩|⟨y,hy,hty,c,rfl⟩
  ·refine (hI.lo x hxM ht (by omega)).mono fun f hf => ?_
   rcases List.mem_append.1 hf with h|h
   ·exact List.mem_append_left _ (hup _ f h)
   ·exact List.mem_append_right _ h
  ·rw [hrz] at hlv;omega
 ·intro j j1 j4 f hf;have hf':=(hB j f).1 hf;have hrf:0<=f.1/\f.1<n:=by
   have:=hein _ f hf';omega
  refine Nat.le_trans (kS (fun g hg=>hein _ g ((hB _ g).1 hg)) (hein j) hrf hrf fun x hx=>hx.mono fun g hg=>(hB _ g).1 hg) (ana hI k3 ha hb hro hsm hs j j1 j4 f hf')
 ·intro j hj;refine Nat.le_trans (kS (fun g hg => ?_) (hI.eine ha hb j) ha ha fun x hx=>hx.mono fun g hg => ?_) (hI.sz' j (by omega))
  ·rcases List.mem_append.1 hg with h|h
   ·exact hI.ein _ g ((hlow j g (by omega)).1 h)
   ·rw [List.mem_singleton.1 h];exact ⟨ha.1,ha.2,hb.1,hb.2⟩
  ·rcases List.mem_append.1 hg with h|h
   ·exact List.mem_append_left _ ((hlow j g (by omega)).1 h)
   ·exact List.mem_append_right _ h
end
section
variable {n:Nat} {M:List az} {e:Ed} {k:Nat} (hI:Inv n M e (k:Int)) (k3:(k:Int)<=3) (ha:0<=e.1/\e.1<n) (hb:0<=e.2/\e.2<n)
 {r o:Int} (hro:(r=e.1/\o=e.2)\/(r=e.2/\o=e.1)) (hsm:cz n (aG M k) r<=cz n (aG M k) o)
 {s:Int->Bool} (hs:∀x:Int,0<=x/\x<n->(s x=true↔Con (aG M k) r x))
include hI k3 ha hb hro hsm hs
theorem amg {M2 A B:List az} {x:az} (h1:M.map (f1 s k)=A++x::B) (h2:M2=(A.map fun y=>if dP s k y=1 then iD k y else y)++Ce x::B) (hx2:dP s k x=2) (hgE:gE M2=gE M):WOk n M2:=by
 have hr:0<=r/\r<n:=by rcases hro with ⟨rfl,rfl⟩|⟨rfl,rfl⟩<;>assumption
 have hein:=acd hI k3 ha hb hro hsm hs;have hxt:x.2.2.2=false/\x.2.2.1=k/\¬(s x.1=false/\s x.2.1=false)/\¬(s x.1=true/\s x.2.1=true):=by
  unfold dP at hx2;split at hx2
  ·omega
  ·rename_i h;split at hx2
   ·omega
   ·rename_i h';simp only [not_or] at h;refine ⟨by simpa using h.1,?_,h.2.2,h'⟩;apply Classical.byContradiction;exact h.2.1
 obtain ⟨xt,xk,xs1,xs2⟩:=hxt;have hxM:x∈M:=(A9 k3 xt).1 (by rw [h1];exact List.mem_append_right _ (List.mem_cons_self ..));have hgr:fD n (gE M2)=true:=by rw [hgE];exact hI.gr
 -- the edges of the forests
 have hC:∀(j:Int) (f:Ed),f∈aG M2 j↔f∈aG (M.map (f1 s k)) j\/(f=(x.1,x.2.1)/\j<=k):=by
  intro j f;rw [h1,h2,fe,fe];constructor
  ·rintro ⟨y',hy',ht,hl,he⟩;rcases List.mem_append.1 hy' with hy'|hy'
   ·obtain ⟨y,hy,rfl⟩:=List.mem_map.1 hy';by_cases c:dP s k y=1
    ·rw [if_pos c] at ht;have ht':y.2.2.2=true:=ht;unfold dP at c;rw [if_pos (.inl ht')] at c;omega
    ·rw [if_neg c] at ht hl he;exact .inl ⟨y,List.mem_append_left _ hy,ht,hl,he⟩
   ·rcases List.mem_cons.1 hy' with rfl|hy'
    ·exact .inr ⟨he.symm,by rw [<-xk];exact hl⟩
    ·exact .inl ⟨y',List.mem_append_right _ (List.mem_cons_of_mem _ hy'),ht,hl,he⟩
  ·rintro (⟨y,hy,ht,hl,he⟩|⟨he,hl⟩)
   ·rcases List.mem_append.1 hy with hy|hy
    ·refine ⟨y,List.mem_append_left _ (List.mem_map.2 ⟨y,hy,if_neg fun c => ?_⟩),ht,hl,he⟩;unfold dP at c;rw [if_pos (.inl ht)] at c;omega
    ·rcases List.mem_cons.1 hy with rfl|hy
     ·rw [xt] at ht;cases ht
     ·exact ⟨y,List.mem_append_right _ (List.mem_cons_of_mem _ hy),ht,hl,he⟩
   ·exact ⟨Ce x,List.mem_append_right _ (List.mem_cons_self ..),rfl,by show j<=x.2.2.1;omega,he.symm⟩
 have hup:∀(j:Int) (f:Ed),f∈aG M j->f∈aG M2 j:=fun j f h=>(hC j f).2 (.inl (akR k3 h))
 have hnon:∀y,y∈M2->y.2.2.2=false->y∈M\/∃z,z∈M/\z.2.2.2=false/\dP s k z=1/\y=iD k z:=by
  intro y hy ht;rw [h2] at hy;rcases List.mem_append.1 hy with hy|hy
  ·obtain ⟨z,hz,rfl⟩:=List.mem_map.1 hy;by_cases c:dP s k z=1
   ·rw [if_pos c] at ht ⊢;exact .inr ⟨z,(A9 k3 (show z.2.2.2=false from ht)).1 (by rw [h1];exact List.mem_append_left _ hz),ht,c,rfl⟩
   ·rw [if_neg c] at ht ⊢;exact .inl ((A9 k3 ht).1 (by rw [h1];exact List.mem_append_left _ hz))
  ·rcases List.mem_cons.1 hy with rfl|hy
   ·cases ht
   ·exact .inl ((A9 k3 ht).1 (by rw [h1];exact List.mem_append_right _ (List.mem_cons_of_mem _ hy)))
 have hrz:∀y:az,(iD k y).2.2.1=(k:Int)+1:=fun y=>by
  unfold iD Ns;rw [if_neg (by omega)]
 -- the found one joins the two sides
 obtain ⟨x1r,x2r⟩:=hI.rg hxM;have hlo:=hI.lo x hxM xt (by omega);rw [xk] at hlo;have hsides:(Con (aG M k) x.1 r/\Con (aG M k) o x.2.1)\/(Con (aG M k) x.1 o/\Con (aG M k) r x.2.1):=by
  rcases (Om hro).1 hlo with h|h|h
  ·exfalso;by_cases c:s x.1=true
   ·exact xs2 ⟨c,(hs _ x2r).2 (((hs _ x1r).1 c).trans h)⟩
   ·refine xs1 ⟨by simpa using c,?_⟩;cases h':s x.2.1 with
    | false=>rfl
    | true=>exact absurd ((hs _ x1r).2 (((hs _ x2r).1 h').trans h.symm)) c
  ·exact .inl h
  ·exact .inr h
 have hdown:∀{j:Int},j<=k->∀{u v:Int},Con (aG M k) u v->Con (aG M j) u v:=by
  intro j hj u v h;exact h.mono (qh hj)
 have hmono:∀{j:Int} {u v:Int},Con (aG M j) u v->Con (aG M2 j) u v:=fun h=>h.mono fun f hf=>hup _ f hf
 have hjoin:∀j:Int,j<=k->Con (aG M2 j) r o:=by
  intro j hj;have hxx:Con (aG M2 j) x.1 x.2.1:=.of ((hC j _).2 (.inr ⟨rfl,hj⟩));rcases hsides with ⟨g1,g2⟩|⟨g1,g2⟩
  ·exact (hmono (hdown hj g1)).symm.trans (hxx.trans (hmono (hdown hj g2)).symm)
  ·exact (hmono (hdown hj g2)).trans (hxx.symm.trans (hmono (hdown hj g1)))
 have hrj:∀{j:Int},j<=k->∀{u v:Int},Con (aG M j++[e]) u v->Con (aG M2 j) u v:=by
  intro j hj u v h;rcases (Om hro).1 h with h|⟨g1,g2⟩|⟨g1,g2⟩
  ·exact hmono h
  ·exact (hmono g1).trans ((hjoin j hj).trans (hmono g2))
  ·exact (hmono g1).trans ((hjoin j hj).symm.trans (hmono g2))
 have hjr:∀{j:Int},j<=k->∀{u v:Int},Con (aG M2 j) u v->Con (aG M j++[e]) u v:=by
  intro j hj u v h;refine h.sub fun f hf => ?_
  rcases (hC j f).1 hf with h|⟨rfl,_⟩
  ·exact .of (List.mem_append_left _ ((Ch k3 (by omega)).1 h))
  ·refine hlo.mono fun g hg => ?_
   rcases List.mem_append.1 hg with h|h
   ·exact List.mem_append_left _ (qh hj g h)
   ·exact List.mem_append_right _ h
 refine ⟨hgr,?_,?_,?_,?_⟩
 ·intro y hy;have hl1:=am_ k3 (s:=s) hI.lv (by omega);rw [h2] at hy;rcases List.mem_append.1 hy with hy|hy
  ·obtain ⟨z,hz,rfl⟩:=List.mem_map.1 hy;by_cases c:dP s k z=1
   ·rw [if_pos c,hrz];omega
   ·rw [if_neg c];exact hl1 z (by rw [h1];exact List.mem_append_left _ hz)
  ·rcases List.mem_cons.1 hy with rfl|hy
   ·exact hI.lv x hxM
   ·exact hl1 y (by rw [h1];exact List.mem_append_right _ (List.mem_cons_of_mem _ hy))
 ·-- no ring
  have hno:¬Con (aG M 0) x.1 x.2.1:=by
   intro h;refine hI.dis' ha hb hro 0 (by omega) ?_;rcases hsides with ⟨g1,g2⟩|⟨g1,g2⟩
   ·exact (hdown (by omega) g1).symm.trans (h.trans (hdown (by omega) g2).symm)
   ·exact (hdown (by omega) g2).trans (h.symm.trans (hdown (by omega) g1))
  refine (Jp hI.nc hno).sub fun f hf => ?_
  rcases (hC 0 f).1 hf with h|⟨rfl,_⟩
  ·exact List.mem_append_left _ ((Ch k3 (by omega)).1 h)
  ·exact List.mem_append_right _ (List.mem_singleton.2 rfl)
 ·intro y hy ht;have hcon:Con (aG M2 y.2.2.1) y.1 y.2.1:=by
   rcases hnon y hy ht with hyM|⟨z,hz,hzt,c,rfl⟩
   ·by_cases hl:y.2.2.1<=k
    ·exact hrj hl (hI.lo y hyM ht hl)
    ·exact hmono (hI.hi y hyM ht (by omega))
   ·rw [hrz];obtain ⟨g1,g2⟩:=hI.rg hz;have hc:s z.1=true/\s z.2.1=true:=by
     unfold dP at c;split at c
     ·omega
     ·split at c
      ·assumption
      ·omega
    have u1:=Y_ hI k3 ha hb hro hsm hs ((hs _ g1).1 hc.1);have u2:=Y_ hI k3 ha hb hro hsm hs ((hs _ g2).1 hc.2);exact (u1.symm.trans u2).mono fun f hf=>(hC _ f).2 (.inl hf)
  have hrg:=dF ((il hgr).1 (y.1,y.2.1) (List.mem_map.2 ⟨y,hy,rfl⟩));exact (iL hgr _ ⟨hrg.1,hrg.2.1⟩ ⟨hrg.2.2.1,hrg.2.2.2.1⟩).2 hcon
 ·intro j j1 j4 f hf;rw [aca];have he2:=gF hgr j;have hrf:0<=f.1/\f.1<n:=by
   have:=he2 f hf;omega
  by_cases hj:(j:Int)<=k
  ·have h3:=hI.sz' j hj;by_cases hc:Con (aG M j++[e]) f.1 e.1
   ·exact Nat.le_trans (kS he2 (hI.eine ha hb j) hrf ha fun v hv=>hc.symm.trans (hjr hj hv)) h3
   ·have hce:∀{v:Int},Con (aG M j++[e]) f.1 v->Con (aG M j) f.1 v:=by
     intro v hv;have hee:Con (aG M j++[e]) e.1 e.2:=.of (List.mem_append_right _ (List.mem_singleton.2 rfl));have hs':∀{u v:Int},Con (aG M j) u v->Con (aG M j++[e]) u v:=fun h=>h.mono fun g hg=>List.mem_append_left _ hg
     rcases (Om (.inl ⟨rfl,rfl⟩)).1 hv with h|⟨g1,_⟩|⟨g1,_⟩
     ·exact h
     ·exact absurd (hs' g1) hc
     ·exact absurd ((hs' g1).trans hee.symm) hc
    have hfM:f∈aG M j:=by
     rcases (hC j f).1 hf with h|⟨rfl,_⟩
     ·exact (Ch k3 (by omega)).1 h
     ·exfalso;have hee:Con (aG M j++[e]) r o:=by
       have h0:Con (aG M j++[e]) e.1 e.2:=.of (List.mem_append_right _ (List.mem_singleton.2 rfl));rcases hro with ⟨rfl,rfl⟩|⟨rfl,rfl⟩
       ·exact h0
       ·exact h0.symm
      have hs':∀{u v:Int},Con (aG M k) u v->Con (aG M j++[e]) u v:=fun h=>(hdown hj h).mono fun g hg=>List.mem_append_left _ hg
      have hxr:Con (aG M j++[e]) x.1 r:=by
       rcases hsides with ⟨g1,_⟩|⟨g1,_⟩
       ·exact hs' g1
       ·exact (hs' g1).trans hee.symm
      refine hc (hxr.trans ?_);rcases hro with ⟨rfl,rfl⟩|⟨rfl,rfl⟩
      ·exact .refl _
      ·exact hee
    exact Nat.le_trans (kS he2 (hI.ein j) hrf hrf fun v hv=>hce (hjr hj hv)) (hI.sz j j1 j4 f hfM)
  ·have hf':f∈aG (M.map (f1 s k)) j:=by
    rcases (hC j f).1 hf with h|⟨_,h⟩
    ·exact h
    ·exact absurd h hj
   refine Nat.le_trans (kS he2 (hein j) hrf hrf fun v hv=>hv.mono fun g hg => ?_) (ana hI k3 ha hb hro hsm hs j j1 j4 f hf');rcases (hC j g).1 hg with h|⟨_,h⟩
   ·exact h
   ·exact absurd h hj
end
theorem aon {n:Nat} {M:List az} {e:Ed} {k:Nat} (hI:Inv n M e (k:Int)) (k3:(k:Int)<=3) (ha:0<=e.1/\e.1<n) (hb:0<=e.2/\e.2<n) :
  ((sch n M e k).2=none->Inv n (sch n M e k).1 e ((k:Int)-1))/\((sch n M e k).2≠none->WOk n (sch n M e k).1):=by
 have hgE:=UY n M e (k:Int)
 -- the lesser side
 have hro:((if cmp n M k e.2<cmp n M k e.1 then e.2 else e.1)=e.1/\(if cmp n M k e.2<cmp n M k e.1 then e.1 else e.2)=e.2)\/((if cmp n M k e.2<cmp n M k e.1 then e.2 else e.1)=e.2/\(if cmp n M k e.2<cmp n M k e.1 then e.1 else e.2)=e.1):=by
  by_cases h:cmp n M k e.2<cmp n M k e.1
  ·rw [if_pos h,if_pos h];exact .inr ⟨rfl,rfl⟩
  ·rw [if_neg h,if_neg h];exact .inl ⟨rfl,rfl⟩
 have hsm:cz n (aG M k) (if cmp n M k e.2<cmp n M k e.1 then e.2 else e.1)<=cz n (aG M k) (if cmp n M k e.2<cmp n M k e.1 then e.1 else e.2):=by
  by_cases h:cmp n M k e.2<cmp n M k e.1
  ·rw [if_pos h,if_pos h];exact Nat.le_of_lt h
  ·rw [if_neg h,if_neg h];exact Nat.le_of_not_lt h
 have hlc:(if cmp n M k e.2<cmp n M k e.1 then aY n M k e.2 else aY n M k e.1)=aY n M k (if cmp n M k e.2<cmp n M k e.1 then e.2 else e.1):=by
  by_cases h:cmp n M k e.2<cmp n M k e.1
  ·rw [if_pos h,if_pos h]
  ·rw [if_neg h,if_neg h]
 unfold sch at hgE ⊢;simp only at hgE ⊢;rw [hlc,Fz (Cf _ _)] at hgE ⊢;generalize (if cmp n M k e.2<cmp n M k e.1 then e.2 else e.1)=r at hro hsm hgE ⊢;generalize (if cmp n M k e.2<cmp n M k e.1 then e.1 else e.2)=o at hro hsm;have hr:0<=r/\r<n:=by rcases hro with ⟨rfl,rfl⟩|⟨rfl,rfl⟩<;>assumption
 have hs:∀x:Int,0<=x/\x<n->((fun x=>decide (aY n M k x=aY n M k r)) x=true↔Con (aG M k) r x):=by
  intro x hx;simp only [decide_eq_true_eq];rw [iL hI.gr _ hx hr];exact ⟨fun h=>h.symm,fun h=>h.symm⟩
 generalize (fun x=>decide (aY n M k x=aY n M k r))=s at hs hgE ⊢;have hf1:(M.map fun y=>if iW s k y=1 then iD k y else y)=M.map (f1 s k):=rfl;rw [hf1] at hgE ⊢;simp only at hgE ⊢;unfold nP at hgE ⊢;by_cases hlt:(M.map (f1 s k)).findIdx (fun y=>decide (dP s k y=2))<(M.map (f1 s k)).length
 ·rw [dif_pos hlt] at hgE ⊢;refine ⟨(fun h=>absurd h (by simp)),fun _ => ?_⟩;have h2:=List.findIdx_getElem (w:=hlt);have hsp:M.map (f1 s k)=(M.map (f1 s k)).take ((M.map (f1 s k)).findIdx fun y=>decide (dP s k y=2))++(M.map (f1 s k))[(M.map (f1 s k)).findIdx fun y=>decide (dP s k y=2)]::(M.map (f1 s k)).drop ((M.map (f1 s k)).findIdx (fun y=>decide (dP s k y=2))+1):=by
   conv=>lhs;rw [<-List.take_append_drop ((M.map (f1 s k)).findIdx fun y=>decide (dP s k y=2)) (M.map (f1 s k)),List.drop_eq_getElem_cons hlt]
  exact amg hI k3 ha hb hro hsm hs hsp rfl (by simpa using h2) hgE
 ·rw [dif_neg hlt] at hgE ⊢;refine ⟨fun _=>amf hI k3 ha hb hro hsm hs rfl (fun y hy h => ?_) hgE,fun h=>absurd rfl h⟩;refine hlt (List.findIdx_lt_length_of_exists ⟨y,hy,by simpa using h⟩)
theorem afw {n:Nat} {e:Ed} (ha:0<=e.1/\e.1<n) (hb:0<=e.2/\e.2<n):∀(k:Nat) (M:List az),k<=4->Inv n M e ((k:Int)-1)->WOk n (tO n e k M).1/\gE (tO n e k M).1=gE M
 | 0,M,_,hI=>⟨hI.wok,rfl⟩
 | k+1,M,hk,hI=>by
  have hlev:((k+1:Nat):Int)-1=(k:Int):=by omega
  rw [hlev] at hI;obtain ⟨h1,h2⟩:=aon hI (by omega) ha hb;unfold tO;split
  ·rename_i hn;obtain ⟨g1,g2⟩:=afw ha hb k _ (by omega) (h1 hn);exact ⟨g1,g2.trans (UY ..)⟩
  ·rename_i hn;exact ⟨h2 (by rw [hn];simp),UY ..⟩
theorem Nv (L:List az) (p:Ed->Bool):gE (L.filter fun y=>p (y.1,y.2.1))=(gE L).filter p:=by
 unfold gE;rw [List.filter_map];rfl
theorem akS:∀{L:List az},(gE L).Nodup->∀{y z:az},y∈L->z∈L->(y.1,y.2.1)=(z.1,z.2.1)->y=z
 | [],_,y,z,hy,_,_=>by cases hy
 | x::L,hn,y,z,hy,hz,he=>by
  have hn':((x.1,x.2.1)::gE L).Nodup:=hn;rw [List.nodup_cons] at hn';rcases List.mem_cons.1 hy with rfl|hy'
  ·rcases List.mem_cons.1 hz with rfl|hz'
   ·rfl
   ·exact absurd (List.mem_map.2 ⟨z,hz',he.symm⟩) hn'.1
  ·rcases List.mem_cons.1 hz with rfl|hz'
   ·exact absurd (List.mem_map.2 ⟨y,hy',he⟩) hn'.1
   ·exact akS hn'.2 hy' hz' he
def aqa:List Ed:=(List.range 12).flatMap fun (b:Nat)=>(List.range b).map fun (a:Nat)=>((a:Int),(b:Int))
theorem amh:aqa.length=66:=by decide
theorem FD {n:Nat} {es:List Ed} (h:GrOk n es):es.length<=66:=by
 rw [<-amh];refine jm _ _ (Ca h.2.2.1) fun x hx => ?_
 have:=dF (h.2.2.2 x hx);have h12:=h.2.1;unfold aqa;rw [List.mem_flatMap];refine ⟨x.2.toNat,List.mem_range.2 (by omega),List.mem_map.2 ⟨x.1.toNat,List.mem_range.2 (by omega),?_⟩⟩;rw [Int.toNat_of_nonneg (by omega),Int.toNat_of_nonneg (by omega)]
theorem U0 {n:Nat} {es:List Ed} (h:GrOk n es):fD n es=true:=by
 unfold fD;rw [show aU (n:Int) 1 12=true from aQ.2 (by have:=h.1;have:=h.2.1;omega),Ng h (FD h)];rfl
theorem ahW {n:Nat} {es:List Ed} (h:fD n es=true) (h2:2<=n):GrOk n es:=by
 unfold fD at h;rw [aP,aQ] at h;obtain ⟨h3,h4,_⟩:=ik h.2;exact ⟨by omega,by omega,h4,h3⟩
theorem WOk.con {n:Nat} {L:List az} (hw:WOk n L) {y:az} (hy:y∈L) (ht:y.2.2.2=false):Con (aG L y.2.2.1) y.1 y.2.1:=by
 have hr:=dF ((il hw.gr).1 (y.1,y.2.1) (List.mem_map.2 ⟨y,hy,rfl⟩));exact (iL hw.gr _ ⟨hr.1,hr.2.1⟩ ⟨hr.2.2.1,hr.2.2.2.1⟩).1 (hw.un y hy ht)
theorem WOk.same {n:Nat} {L:List az} (hw:WOk n L) (u v:Int):Con (aG L 0) u v↔Con (gE L) u v:=by
 constructor
 ·intro h;exact h.mono fun e he=>(Oi L 0).subset he
 ·intro h;refine h.sub fun e he => ?_
  obtain ⟨y,hy,rfl⟩:=List.mem_map.1 he;have hl:=(hw.lv y hy).1;cases ht:y.2.2.2 with
  | true=>exact .of (fe.2 ⟨y,hy,ht,hl,rfl⟩)
  | false=>exact (hw.con hy ht).mono (qh hl)
theorem WOk.labs {n:Nat} {L:List az} (hw:WOk n L):labs n (aG L 0)=labs n (gE L):=by
 have hE:kz n (gE L):=fun e he=>by
  have:=dF ((il hw.gr).1 e he);exact ⟨this.1,this.2.1,this.2.2.1,this.2.2.2.1⟩
 exact (iK (gF hw.gr 0)).uniq (iK hE) hw.same
section
variable {n:Nat} {L:List az} (hw:WOk n L) {e:Ed}
include hw
theorem ahX {old:az} (ho:old∈L) (hoe:(old.1,old.2.1)=e) :
  WOk n (if old.2.2.2=true then (tO n e (old.2.2.1.toNat+1) (L.filter fun y=>decide ((y.1,y.2.1)≠e))).1 else L.filter fun y=>decide ((y.1,y.2.1)≠e)) /\
  gE (if old.2.2.2=true then (tO n e (old.2.2.1.toNat+1) (L.filter fun y=>decide ((y.1,y.2.1)≠e))).1 else L.filter fun y=>decide ((y.1,y.2.1)≠e))=del (gE L) e:=by
 have hin:e∈gE L:=List.mem_map.2 ⟨old,ho,hoe⟩;obtain ⟨hgE,hgn,hL6⟩:=il hw.gr;have her:=dF (hgE e hin);have hgR:gE (L.filter fun y=>decide ((y.1,y.2.1)≠e))=del (gE L) e:=by
  rw [Nv L fun y=>decide (y≠e)];unfold del;congr 1;funext y;rw [decide_not]
 have hG:=ahW hw.gr (by omega);have hgr:fD n (gE (L.filter fun y=>decide ((y.1,y.2.1)≠e)))=true:=by
  rw [hgR];exact U0 hG.del
 have hm:∀y,y∈(L.filter fun y=>decide ((y.1,y.2.1)≠e))↔y∈L/\(y.1,y.2.1)≠e:=fun y=>by
  rw [List.mem_filter,decide_eq_true_eq]
 have hsub:∀(j:Int) (f:Ed),f∈aG (L.filter fun y=>decide ((y.1,y.2.1)≠e)) j->f∈aG L j:=by
  intro j f hf;obtain ⟨y,hy,ht,hl,he⟩:=fe.1 hf;exact fe.2 ⟨y,((hm y).1 hy).1,ht,hl,he⟩
 have hne:∀(j:Int) (f:Ed),f∈aG (L.filter fun y=>decide ((y.1,y.2.1)≠e)) j->f≠e:=by
  intro j f hf;obtain ⟨y,hy,ht,hl,he⟩:=fe.1 hf;rw [<-he];exact ((hm y).1 hy).2
 have hback:∀(j:Int) (f:Ed),f∈aG L j->f≠e->f∈aG (L.filter fun y=>decide ((y.1,y.2.1)≠e)) j:=by
  intro j f hf hfe;obtain ⟨y,hy,ht,hl,he⟩:=fe.1 hf;exact fe.2 ⟨y,(hm y).2 ⟨hy,by rw [he];exact hfe⟩,ht,hl,he⟩
 have hold:∀j:Int,e∈aG L j->old.2.2.2=true/\j<=old.2.2.1:=by
  intro j hf;obtain ⟨y,hy,ht,hl,he⟩:=fe.1 hf;have:=akS hgn hy ho (he.trans hoe.symm);subst this;exact ⟨ht,hl⟩
 generalize hR:(L.filter fun y=>decide ((y.1,y.2.1)≠e))=R at *
 have hnc:NoCyc (aG R 0):=hw.nc.sub fun f hf=>hsub 0 f hf
 have hsz:∀j:Nat,1<=j->j<=4->∀f,f∈aG R j->cz n (aG R j) f.1<=n / 2 ^ j:=by
  intro j j1 j4 f hf;have hrf:=gF hgr j f hf;exact Nat.le_trans (kS (gF hgr j) (gF hw.gr j) ⟨hrf.1,hrf.2.1⟩ ⟨hrf.1,hrf.2.1⟩ fun x hx=>hx.mono fun g hg=>hsub j g hg) (hw.sz j j1 j4 f (hsub j f hf))
 cases ht:old.2.2.2 with
 | false=>
  rw [if_neg (by simp)];refine ⟨⟨hgr,fun x hx=>hw.lv x ((hm x).1 hx).1,hnc,fun x hx hxt => ?_,hsz⟩,hgR⟩;have hr:=dF ((il hgr).1 (x.1,x.2.1) (List.mem_map.2 ⟨x,hx,rfl⟩));refine (iL hgr _ ⟨hr.1,hr.2.1⟩ ⟨hr.2.2.1,hr.2.2.2.1⟩).2 ((hw.con ((hm x).1 hx).1 hxt).mono fun f hf=>hback _ f hf ?_);rintro rfl;have:=(hold _ hf).1;rw [ht] at this;cases this
 | true=>
  rw [if_pos rfl];have hlv:=hw.lv old ho;have heat:∀j:Int,j<=old.2.2.1->e∈aG L j:=fun j hj=>fe.2 ⟨old,ho,ht,hj,hoe⟩
  have h3:old.2.2.1<=3:=by
   apply Classical.byContradiction;intro hno;have h4:=hw.sz 4 (by omega) (by omega) e (heat _ (by omega));rw [aca] at h4;have h5:=ap9 (gF hw.gr ((4:Nat):Int)) (v:=e.1) ⟨her.1,her.2.1⟩;have h6:=(xh hw.gr).2;have:n / 2 ^ 4=0:=Nat.div_eq_of_lt (by omega);omega
  have hI:Inv n R e (old.2.2.1.toNat:Int):=by
   rw [Int.toNat_of_nonneg hlv.1];refine ⟨hgr,fun x hx=>hw.lv x ((hm x).1 hx).1,hnc,fun h => ?_,fun x hx hxt hk => ?_,fun x hx hxt hk => ?_,hsz,fun j hj => ?_⟩
   ·exact hw.nc e (heat 0 hlv.1) (h.mono fun f hf=>jE.2 ⟨hsub 0 f hf,hne 0 f hf⟩)
   ·refine (hw.con ((hm x).1 hx).1 hxt).mono fun f hf=>hback _ f hf ?_
    rintro rfl;have:=(hold _ hf).2;omega
   ·refine (hw.con ((hm x).1 hx).1 hxt).mono fun f hf => ?_
    by_cases hfe:f=e
    ·exact List.mem_append_right _ (List.mem_singleton.2 hfe)
    ·exact List.mem_append_left _ (hback _ f hf hfe)
   ·have h1:cz n (aG R j++[e]) e.1<=cz n (aG L j) e.1:=by
     refine kS (fun f hf => ?_) (gF hw.gr j) ⟨her.1,her.2.1⟩ ⟨her.1,her.2.1⟩ fun x hx=>hx.mono fun f hf => ?_
     ·rcases List.mem_append.1 hf with h|h
      ·exact gF hgr j f h
      ·rw [List.mem_singleton.1 h];exact ⟨her.1,her.2.1,her.2.2.1,her.2.2.2.1⟩
     ·rcases List.mem_append.1 hf with h|h
      ·exact hsub j f h
      ·rw [List.mem_singleton.1 h];exact heat j hj
    by_cases j0:j=0
    ·subst j0;have:=aqK n (aG R ((0:Nat):Int)++[e]) e.1;simpa using this
    ·exact Nat.le_trans h1 (hw.sz j (by omega) (by omega) e (heat j hj))
  have:=afw (n:=n) (e:=e) ⟨her.1,her.2.1⟩ ⟨her.2.2.1,her.2.2.2.1⟩ (old.2.2.1.toNat+1) R (by omega) (by rw [show ((old.2.2.1.toNat+1:Nat):Int)-1=(old.2.2.1.toNat:Int) from by omega];exact hI);exact ⟨this.1,this.2.trans hgR⟩
theorem akT (he:df n e=true) (hne:e∉gE L) :
  WOk n (L.filter (fun y=>lsB (y.1,y.2.1) e)++[(e.1,e.2,0,!decide (aY n L 0 e.1=aY n L 0 e.2))]++L.filter (fun y=>lsB e (y.1,y.2.1))) /\
  gE (L.filter (fun y=>lsB (y.1,y.2.1) e)++[(e.1,e.2,0,!decide (aY n L 0 e.1=aY n L 0 e.2))]++L.filter (fun y=>lsB e (y.1,y.2.1)))=ins (gE L) e:=by
 have her:=dF he;have hG:=ahW hw.gr (by omega);have hgR:gE (L.filter (fun y=>lsB (y.1,y.2.1) e)++[(e.1,e.2,0,!decide (aY n L 0 e.1=aY n L 0 e.2))]++L.filter (fun y=>lsB e (y.1,y.2.1)))=ins (gE L) e:=by
  have h1:=Nv L fun y=>lsB y e
  have h2:=Nv L fun y=>lsB e y
  unfold ins;rw [<-h1,<-h2];unfold gE;simp only [List.map_append,List.map_cons,List.map_nil]
 have hm:∀y,y∈(L.filter (fun y=>lsB (y.1,y.2.1) e)++[(e.1,e.2,0,!decide (aY n L 0 e.1=aY n L 0 e.2))]++L.filter (fun y=>lsB e (y.1,y.2.1)))↔y=(e.1,e.2,0,!decide (aY n L 0 e.1=aY n L 0 e.2))\/y∈L:=by
  intro y;simp only [List.mem_append,List.mem_filter,List.mem_singleton];constructor
  ·rintro ((h|h)|h)
   ·exact .inr h.1
   ·exact .inl h
   ·exact .inr h.1
  ·rintro (h|h)
   ·exact .inl (.inr h)
   ·cases h1:lsB (y.1,y.2.1) e with
    | true=>exact .inl (.inl ⟨h,rfl⟩)
    | false=>
     cases h2:lsB e (y.1,y.2.1) with
     | true=>exact .inr ⟨h,rfl⟩
     | false=>exact absurd (List.mem_map.2 ⟨y,h,Oc h1 h2⟩) hne
 have hgr:fD n (gE (L.filter (fun y=>lsB (y.1,y.2.1) e)++[(e.1,e.2,0,!decide (aY n L 0 e.1=aY n L 0 e.2))]++L.filter (fun y=>lsB e (y.1,y.2.1))))=true:=by
  rw [hgR];exact U0 (hG.ins he)
 generalize (L.filter (fun y=>lsB (y.1,y.2.1) e)++[(e.1,e.2,0,!decide (aY n L 0 e.1=aY n L 0 e.2))]++L.filter (fun y=>lsB e (y.1,y.2.1)))=R at hgR hm hgr ⊢;have hat:∀(j:Int) (f:Ed),f∈aG R j↔f∈aG L j\/(f=e/\aY n L 0 e.1≠aY n L 0 e.2/\j<=0):=by
  intro j f;rw [fe,fe];constructor
  ·rintro ⟨y,hy,ht,hl,hf⟩;rcases (hm y).1 hy with rfl|hy
   ·simp only [Bool.not_eq_true',decide_eq_false_iff_not] at ht hl hf;exact .inr ⟨hf.symm,ht,hl⟩
   ·exact .inl ⟨y,hy,ht,hl,hf⟩
  ·rintro (⟨y,hy,ht,hl,hf⟩|⟨rfl,ht,hl⟩)
   ·exact ⟨y,(hm y).2 (.inr hy),ht,hl,hf⟩
   ·exact ⟨_,(hm _).2 (.inl rfl),by simp [ht],hl,rfl⟩
 have hcl:=iL hw.gr 0 (u:=e.1) (v:=e.2) ⟨her.1,her.2.1⟩ ⟨her.2.2.1,her.2.2.2.1⟩;refine ⟨⟨hgr,fun x hx => ?_,?_,fun x hx hxt => ?_,fun j j1 j4 f hf => ?_⟩,hgR⟩
 ·rcases (hm x).1 hx with rfl|hx
  ·simp
  ·exact hw.lv x hx
 ·by_cases hc:aY n L 0 e.1=aY n L 0 e.2
  ·refine hw.nc.sub fun f hf => ?_
   rcases (hat 0 f).1 hf with h|h
   ·exact h
   ·exact absurd hc h.2.1
  ·refine (Jp hw.nc (fun h=>hc (hcl.2 h))).sub fun f hf => ?_
   rcases (hat 0 f).1 hf with h|h
   ·exact List.mem_append_left _ h
   ·exact List.mem_append_right _ (List.mem_singleton.2 h.1)
 ·have hr:=dF ((il hgr).1 (x.1,x.2.1) (List.mem_map.2 ⟨x,hx,rfl⟩));refine (iL hgr _ ⟨hr.1,hr.2.1⟩ ⟨hr.2.2.1,hr.2.2.2.1⟩).2 ?_;rcases (hm x).1 hx with rfl|hx
  ·simp only [Bool.not_eq_false',decide_eq_true_eq] at hxt;exact (hcl.1 hxt).mono fun f hf=>(hat 0 f).2 (.inl hf)
  ·exact (hw.con hx hxt).mono fun f hf=>(hat _ f).2 (.inl hf)
 ·have hf':f∈aG L j:=by
   rcases (hat j f).1 hf with h|h
   ·exact h
   ·have:=h.2.2;omega
  have hrf:=gF hgr j f hf;rw [aca];refine Nat.le_trans (kS (gF hgr j) (gF hw.gr j) ⟨hrf.1,hrf.2.1⟩ ⟨hrf.1,hrf.2.1⟩ fun x hx=>hx.mono fun g hg => ?_) (hw.sz j j1 j4 f hf');rcases (hat j g).1 hg with h|h
  ·exact h
  ·have:=h.2.2;omega
end
theorem afx {n:Nat} {E:List Ed} (h:kz n E):qd (n:Int) (labs n E)=true:=by
 have hL:=iK h;unfold qd;rw [if_pos (by rw [bV]),if_pos];intro i hi;have hg:=aO hi;unfold UG;rw [hg];simp only;have h1:=hL.le hg;have h2:=hL.lt hg;rw [hL.self hg,aQ.2 (by omega)];simp
theorem ace {n:Nat} {L:List az} (hw:WOk n L) {y:Ed} (hy:y∈gE L):(WT ((n:Int),L) y).1=n/\(WT ((n:Int),L) y).2.2.2.2.2=true/\WOk n (WT ((n:Int),L) y).2.1/\gE (WT ((n:Int),L) y).2.1=del (gE L) y:=by
 have hL6:=(il hw.gr).2.2;obtain ⟨r,h1,_,_,_,h5⟩:=Nt n L y (by omega);have hr:WT ((n:Int),L) y=r:=by unfold WT;rw [h1];rfl
 rw [hr];obtain ⟨old,o1,o2,o3,o4,o5⟩:=h5 ⟨by omega,by rw [fH];exact hw,hy⟩;rw [fH] at o5;have:=ahX hw o1 o2;rw [<-o5] at this;exact ⟨o3,o4,this.1,this.2⟩
theorem acf {n:Nat} {L:List az} (hw:WOk n L) {y:Ed} (he:df n y=true) (hy:y∉gE L):(WA ((n:Int),L) y).1=n/\(WA ((n:Int),L) y).2.2=true/\WOk n (WA ((n:Int),L) y).2.1/\gE (WA ((n:Int),L) y).2.1=ins (gE L) y:=by
 have hL6:=(il hw.gr).2.2;obtain ⟨r,h1,_,_,_,h5⟩:=RX n L y (by omega);have hr:WA ((n:Int),L) y=r:=by unfold WA;rw [h1];rfl
 have h6:=h5 ⟨by omega,by rw [fH];exact hw,he,hy⟩;rw [fH] at h6;rw [hr,h6];exact ⟨rfl,rfl,akT hw he hy⟩
theorem aqb {n:Nat} {L:List az} (hw:WOk n L) {y:Ed} (hy:y∉gE L):(WT ((n:Int),L) y).2.2.2.2.2=false:=by
 have hL6:=(il hw.gr).2.2;obtain ⟨r,h1,_,_,h5,_⟩:=Nt n L y (by omega);have hr:WT ((n:Int),L) y=r:=by unfold WT;rw [h1];rfl
 rw [hr,h5 (fun h=>hy h.2.2)]
theorem akU {n:Nat} {L:List az} (hw:WOk n L) {y:Ed} (hy:y∈gE L):(WA ((n:Int),L) y).2.2=false:=by
 have hL6:=(il hw.gr).2.2;obtain ⟨r,h1,_,_,h5,_⟩:=RX n L y (by omega);have hr:WA ((n:Int),L) y=r:=by unfold WA;rw [h1];rfl
 rw [hr,h5 (fun h=>h.2.2.2 hy)]
def wK (v:Int) (y:Ed):Bool:=decide (y.1=v\/y.2=v)
theorem Nw {n:Nat} (v:Int):∀(es:List Ed) (L:List az) (out:List Ed),WOk n L->es.Nodup->(∀y,y∈es->y∈gE L) ->
  (es.foldl (fZ v) (((n:Int),L),out)).1.1=n/\WOk n (es.foldl (fZ v) (((n:Int),L),out)).1.2/\(∀x,x∈gE (es.foldl (fZ v) (((n:Int),L),out)).1.2↔x∈gE L/\¬(x∈es/\wK v x=true))/\(es.foldl (fZ v) (((n:Int),L),out)).2=out++es.filter (wK v)
 | [],L,out,hw,_,_=>by simp [hw]
 | y::es,L,out,hw,hn,hin=>by
  rw [List.nodup_cons] at hn;rw [List.foldl_cons];by_cases hc:y.1=v\/y.2=v
  ·have hs:fZ v (((n:Int),L),out) y=(((WT ((n:Int),L) y).1,(WT ((n:Int),L) y).2.1),out++[y]):=by unfold fZ;rw [if_pos hc]
   obtain ⟨t1,_,t3,t4⟩:=ace hw (hin y (List.mem_cons_self ..));rw [hs,t1];obtain ⟨g1,g2,g3,g4⟩:=Nw v es (WT ((n:Int),L) y).2.1 (out++[y]) t3 hn.2 (fun z hz=>by
    rw [t4,kR]
    exact ⟨hin z (List.mem_cons_of_mem _ hz),by rintro rfl;exact hn.1 hz⟩)
   refine ⟨g1,g2,fun x => ?_,?_⟩
   ·rw [g3,t4,kR,List.mem_cons];constructor
    ·rintro ⟨⟨h1,h2⟩,h3⟩;refine ⟨h1,?_⟩;rintro ⟨rfl|h4,h5⟩
     ·exact h2 rfl
     ·exact h3 ⟨h4,h5⟩
    ·rintro ⟨h1,h2⟩;refine ⟨⟨h1,?_⟩,fun h=>h2 ⟨.inr h.1,h.2⟩⟩;rintro rfl;exact h2 ⟨.inl rfl,by unfold wK;rw [ai hc]⟩
   ·rw [g4,List.filter_cons_of_pos (by unfold wK;rw [ai hc]),List.append_assoc];rfl
  ·have hs:fZ v (((n:Int),L),out) y=(((n:Int),L),out):=by unfold fZ;rw [if_neg hc]
   rw [hs];obtain ⟨g1,g2,g3,g4⟩:=Nw v es L out hw hn.2 (fun z hz=>hin z (List.mem_cons_of_mem _ hz));have hat:¬wK v y=true:=by unfold wK;rw [au hc];simp
   refine ⟨g1,g2,fun x => ?_,?_⟩
   ·rw [g3,List.mem_cons];constructor
    ·rintro ⟨h1,h2⟩;refine ⟨h1,?_⟩;rintro ⟨rfl|h4,h5⟩
     ·exact hat h5
     ·exact h2 ⟨h4,h5⟩
    ·rintro ⟨h1,h2⟩;exact ⟨h1,fun h=>h2 ⟨.inr h.1,h.2⟩⟩
   ·rw [g4,List.filter_cons_of_neg hat]
theorem acg (v:Int):∀(es:List Ed) (s:Wb × List Ed),es.filter (wK v)=[]->es.foldl (fZ v) s=s
 | [],s,_=>rfl
 | y::es,s,h=>by
  have hat:¬wK v y=true:=fun hh=>by
   rw [List.filter_cons_of_pos hh] at h
   cases h
  rw [List.filter_cons_of_neg hat] at h
  have hs:fZ v s y=s:=by
   unfold fZ;rw [if_neg];intro hc;exact hat (by unfold wK;rw [ai hc])
  rw [List.foldl_cons,hs]
  exact acg v es s h
theorem Ny {n:Nat}:∀(es:List Ed) (L:List az) (b:Bool),WOk n L->(∀y,y∈es->df n y=true) ->
  (es.foldl gT (((n:Int),L),b)).1.1=n/\WOk n (es.foldl gT (((n:Int),L),b)).1.2/\(∀x,x∈gE (es.foldl gT (((n:Int),L),b)).1.2↔x∈gE L\/x∈es)/\(es.Nodup->(∀y,y∈es->y∉gE L)->(es.foldl gT (((n:Int),L),b)).2=b)
 | [],L,b,hw,_=>by simp [hw]
 | y::es,L,b,hw,he=>by
  rw [List.foldl_cons]
  have he':∀z,z∈es->df n z=true:=fun z hz=>he z (List.mem_cons_of_mem _ hz)
  by_cases hy:y∈gE L
  ·have hb:=akU hw hy
   have hs:gT (((n:Int),L),b) y=(((n:Int),L),false):=by
    unfold gT;simp only [hb,Bool.false_eq_true,if_false,Bool.and_false]
   rw [hs]
   obtain ⟨g1,g2,g3,g4⟩:=Ny es L false hw he'
   refine ⟨g1,g2,fun x => ?_,fun _ h=>absurd hy (h y (List.mem_cons_self ..))⟩
   rw [g3,List.mem_cons]
   constructor
   ·rintro (h|h)
    ·exact .inl h
    ·exact .inr (.inr h)
   ·rintro (h|rfl|h)
    ·exact .inl h
    ·exact .inl hy
    ·exact .inr h
  ·obtain ⟨t1,t2,t3,t4⟩:=acf hw (he y (List.mem_cons_self ..)) hy
   have hs:gT (((n:Int),L),b) y=(((n:Int),(WA ((n:Int),L) y).2.1),b):=by
    unfold gT
    simp only [t2,if_true,Bool.and_true]
    rw [t1]
   rw [hs]
   obtain ⟨g1,g2,g3,g4⟩:=Ny es _ b t3 he'
   refine ⟨g1,g2,fun x => ?_,fun hn h => ?_⟩
   ·rw [g3,t4,jq,List.mem_cons]
    constructor
    ·rintro ((h|h)|h)
     ·exact .inr (.inl h)
     ·exact .inl h
     ·exact .inr (.inr h)
    ·rintro (h|h|h)
     ·exact .inl (.inr h)
     ·exact .inl (.inl h)
     ·exact .inr h
   ·rw [List.nodup_cons] at hn
    refine g4 hn.2 fun z hz hzi => ?_
    rw [t4,jq] at hzi
    rcases hzi with rfl|hzi
    ·exact hn.1 hz
    ·exact h z (List.mem_cons_of_mem _ hz) hzi
structure ShR (x0:Int) (n:Nat) (L:List az) (y:An):Prop where
 id:1<=x0/\x0<=3
 web:WOk n L
 an:UM y=true\/lq n y=true/\y.2.2.2=labs n (aG L 0)
theorem ShR.len {x0:Int} {n:Nat} {L:List az} {y:An} (h:ShR x0 n L y):L.length<=66/\y.2.2.1.length<=66/\y.2.2.2.length<=12/\0<=y.1/\y.1<=100000:=by
 have h1:=(il h.web.gr).2.2;have h12:=(xh h.web.gr).2;rcases h.an with hb|⟨ha,hl⟩
 ·unfold UM at hb;simp only [aP,Bool.not_eq_true',decide_eq_true_eq] at hb;omega
 ·unfold lq at ha;simp only [aP] at ha;have h2:=aQ.1 ha.2.1;have h3:=jJ ha.2.2.1;rw [hl,bV];omega
theorem ShR.ok {x0:Int} {n:Nat} {L:List az} {y:An} (h:ShR x0 n L y):yg (x0,(n:Int),L,y)=some (true,())/\xS (x0,(n:Int),L,y)=some (true,()):=by
 have hl:=h.len;obtain ⟨b,b1,b2,b3⟩:=akK x0 n L y (by omega) (by omega) (by omega);have:b=true:=b3.2 ⟨h.id,by omega,by rw [fH];exact h.web,by rw [fH];exact h.an⟩;rw [this] at b1 b2;exact ⟨b1,b2⟩
def aqc:Int × Int × List az × Int × Bool × List Ed × List Int × Int × Bool × List Ed × List Int × Int:=((0:Int),(0:Int),[],(0:Int),false,[],[],(0:Int),false,[],[],(1:Int))
def iQ (x0:Int) (n:Int) (L:List az) (y:An):Int × Int × List az × Int × Bool × List Ed × List Int × Int × Bool × List Ed × List Int × Int:=(x0,n,L,y.1,y.2.1,y.2.2.1,y.2.2.2,y.1,y.2.1,y.2.2.1,y.2.2.2,(0:Int))
structure Dne (n:Nat) (L L':List az) (o:Fq) (y:An):Prop where
 num:y.1=o.1
 lab:y.2.2.2=labs n (aG L' 0)
 add:o.2.1=1\/o.2.1=4->(∀x,x∈gE L'↔x∈gE L\/x∈o.2.2.1)/\((∀z,z∈o.2.2.1->z∉gE L)->y.2.1=true)/\y.2.2.1=[]/\∀e,o.2.2.1=[e]->y.2.1 = !decide (e∈gE L)
 take:o.2.1=2->∃e,o.2.2.1=[e]/\gE L'=del (gE L) e/\y.2.1=decide (e∈gE L)/\y.2.2.1=[]
 rel:o.2.1=3->(∀x,x∈gE L'↔x∈gE L/\wK o.2.2.2 x=false)/\y.2.1=true/\y.2.2.1=(gE L).filter (wK o.2.2.2)/\(y.2.2.1=[]->L'=L)
theorem ahY {x0 : Int} {n : Nat} {L : List az} {y : An} (h : ShR x0 n L y) (o : Fq) (ho : o.2.2.1.length ≤ 1048576) :
    (qI ((x0, (n : Int), L, y), o) = some (aqc, ()) ∧ lL ((x0, (n : Int), L, y), o) = some (aqc, ()) ∧ (mX n o = false ∨ (o.1 ≠ y.1 ∧ o.1 ≠ y.1 + 1))) ∨
    (qI ((x0, (n : Int), L, y), o) = some (iQ x0 n L y, ()) ∧ lL ((x0, (n : Int), L, y), o) = some (iQ x0 n L y, ()) ∧ mX n o = true ∧ o.1 = y.1) ∨
    (mX n o = true ∧ o.1 = y.1 + 1 ∧ ∃ (L' : List az) (z : An), qI ((x0, (n : Int), L, y), o) = some (iQ x0 n L' z, ()) ∧ lL ((x0, (n : Int), L, y), o) = some (iQ x0 n L' z, ()) ∧ ShR x0 n L' z ∧ Dne n L L' o z) := by
  obtain ⟨b1, b2⟩ := h.ok;obtain ⟨hL, h1, h2, hy0, hy1⟩ := h.len;have hO1 := UF n o ho;have hO2 := UE n o ho;have hg := h.web.gr;have hn12 := xh hg;have e1 := an2 BIG (x0, (n : Int), L, y) o;have e2 := anS BIG (x0, (n : Int), L, y) o;have f1 : V_ BIG ((x0, (n : Int), L, y), o) = qI ((x0, (n : Int), L, y), o) := rfl;have f2 : VJ BIG ((x0, (n : Int), L, y), o) = lL ((x0, (n : Int), L, y), o) := rfl;rw [f1] at e1;rw [f2] at e2;rw [b1, ae] at e1;rw [b2, ae] at e2;simp only [aZ, aj, hO1, hO2, ae] at e1 e2;cases hob : mX n o with
  | false =>
    rw [hob] at e1 e2;exact .inl ⟨e1, e2, .inl rfl⟩
  | true =>
    rw [hob] at e1 e2;simp only [aZ, aj] at e1 e2;by_cases hn : o.1 = y.1
    · rw [ai hn, Nu x0 n L y (by omega) (by omega) (by omega), xm y (by omega) (by omega)] at e1
      rw [ai hn, UZ x0 n L y (by omega) (by omega) (by omega), qi y (by omega) (by omega)] at e2
      exact .inr (.inl ⟨e1, e2, rfl, hn⟩)
    · rw [au hn, wr (n := y.1 + 1) (by omega) (by omega)] at e1 e2
      simp only [dM, ah, ae, aj] at e1 e2
      by_cases hw : o.1 = y.1 + 1
      case neg =>
        rw [au hw] at e1 e2;exact .inl ⟨e1, e2, .inr ⟨hn, hw⟩⟩
      rw [ai hw] at e1 e2
      simp only [aZ, aj] at e1 e2
      rw [Nu x0 n L y (by omega) (by omega) (by omega), ae] at e1
      simp only at e1
      refine .inr (.inr ⟨rfl, hw, ?_⟩)
      -- what follows every change
      have tail : ∀ (M : List az) (ok : Bool) (es : List Ed) (p : Option ((Int × Int × List az × An) × An)) (q : Option ((Int × List az) × An)), p = some ((x0, (n : Int), M, y), (o.1, ok, es, [])) → q = some (((n : Int), M), (o.1, ok, es, [])) → WOk n M → iV n es = true →
          (Option.bind p fun x11 =>
  Option.bind (mW (x11.1.2.1, x11.1.2.2.1)) fun r12 =>
  Option.bind (jI (x11.2.1, x11.2.2.1, x11.2.2.2.1, r12.1)) fun r13 =>
  some ((x11.1.1, x11.1.2.1, x11.1.2.2.1, r13.1.1, r13.1.2.1, r13.1.2.2.1, r13.1.2.2.2, x11.2.1, x11.2.2.1, x11.2.2.2.1, r12.1, (0 : Int)), ())) = some (iQ x0 n M (o.1, ok, es, labs n (aG M 0)), ()) ∧ (Option.bind q fun x32 =>
  Option.bind (mQ x32.1) fun r33 =>
  Option.bind (rY (x0, x32.1.1, x32.1.2, x32.2.1, x32.2.2.1, x32.2.2.2.1, r33.1)) fun r34 =>
  Option.bind (ic (x32.2.1, x32.2.2.1, x32.2.2.2.1, r33.1)) fun r35 =>
  some ((r34.1.1, r34.1.2.1, r34.1.2.2.1, r34.1.2.2.2.1, r34.1.2.2.2.2.1, r34.1.2.2.2.2.2.1, r34.1.2.2.2.2.2.2, r35.1.1, r35.1.2.1, r35.1.2.2.1, r35.1.2.2.2, (0 : Int)), ())) = some (iQ x0 n M (o.1, ok, es, labs n (aG M 0)), ()) ∧ ShR x0 n M (o.1, ok, es, labs n (aG M 0)) := by
        intro M ok es p q hp hq hM hes;have hM6 := (il hM.gr).2.2;have hes6 := jJ hes;have hll := bV n (aG M 0);obtain ⟨V, v1, v2, _⟩ := Nq n M (by omega);obtain ⟨V', v1', v2', _⟩ := Nr n M (by omega);rw [v2 hM] at v1;rw [v2' hM] at v1';have i1 := xm (o.1, ok, es, labs n (aG M 0)) (by simp only; omega) (by simp only; omega);have i2 := UZ x0 n M (o.1, ok, es, labs n (aG M 0)) (by omega) (by simp only; omega) (by simp only; omega);have i3 := qi (o.1, ok, es, labs n (aG M 0)) (by simp only; omega) (by simp only; omega);subst hp hq;simp only [ae, v1, v1', i1, i2, i3];refine ⟨rfl, rfl, h.id, hM, .inr ⟨?_, rfl⟩⟩;unfold lq;unfold mX at hob;simp only [aP] at hob ⊢;exact ⟨hob.1, hob.2.1, hes, afx (gF hM.gr 0)⟩
      have hob' := hob
      unfold mX at hob'
      simp only [aP] at hob'
      obtain ⟨d1, _, d3, d4, d5⟩ := hob'
      have d3' := aQ.1 d3
      have hol := jJ d4
      have e0 : iV (n : Int) [] = true := by
        unfold iV;rw [if_pos (fun i hi => absurd hi (by simp))];rfl
      obtain ⟨hgE, hgn, _⟩ := il hg
      have hsrt : oH (gE L) := by
        have h := hg;unfold fD at h;rw [aP] at h;exact (ik h.2).2.1
      by_cases c2' : o.2.1 = 2
      · rw [if_neg (by omega), if_neg (by omega)] at d5
        simp only [aP, decide_eq_true_eq] at d5
        obtain ⟨e, he⟩ := List.length_eq_one_iff.1 d5.1
        obtain ⟨t1, t2, t3⟩ := Y9 (W := ((n : Int), L)) e (by simp only; omega)
        rw [ai c2', he] at e1
        rw [ai c2', au (show ¬ o.2.1 = 1 from by omega), au (show ¬ o.2.1 = 4 from by omega), he] at e2
        by_cases hin : e ∈ gE L
        · obtain ⟨k1, k2, k3, k4⟩ := ace h.web hin
          obtain ⟨g1, g2, g3⟩ := tail (WT ((n : Int), L) e).2.1 true [] (Option.bind (jd (((n : Int), L), e)) fun r7 => Option.bind (bif r7.1.2.2.2.2.2 then some (x0, r7.1.1, r7.1.2.1, y) else some (x0, (n : Int), L, y)) fun x8 => some (x8, (o.1, r7.1.2.2.2.2.2, [], []))) (Option.bind (jZ (((n : Int), L), e)) fun r16 => Option.bind (bif r16.1.2.2.2.2.2 then some (r16.1.1, r16.1.2.1) else some ((n : Int), L)) fun x17 => some (x17, (o.1, r16.1.2.2.2.2.2, [], [])))
            (by rw [t1, ae, k2, ah, ae, k1]) (by rw [t2, ae, k2, ah, ae, k1]) k3 e0
          refine ⟨_, _, e1.trans g1, e2.trans g2, g3, rfl, rfl, fun hc => by omega, fun _ => ⟨e, he, k4, by rw [ai hin], rfl⟩, fun hc => by omega⟩
        · have k2 := aqb h.web hin
          obtain ⟨g1, g2, g3⟩ := tail L false [] (Option.bind (jd (((n : Int), L), e)) fun r7 => Option.bind (bif r7.1.2.2.2.2.2 then some (x0, r7.1.1, r7.1.2.1, y) else some (x0, (n : Int), L, y)) fun x8 => some (x8, (o.1, r7.1.2.2.2.2.2, [], []))) (Option.bind (jZ (((n : Int), L), e)) fun r16 => Option.bind (bif r16.1.2.2.2.2.2 then some (r16.1.1, r16.1.2.1) else some ((n : Int), L)) fun x17 => some (x17, (o.1, r16.1.2.2.2.2.2, [], [])))
            (by rw [t1, ae, k2, aj, ae]) (by rw [t2, ae, k2, aj, ae]) h.web e0
          refine ⟨_, _, e1.trans g1, e2.trans g2, g3, rfl, rfl, fun hc => by omega, fun _ => ⟨e, he, ?_, by rw [au hin], rfl⟩, fun hc => by omega⟩
          unfold del
          rw [List.filter_eq_self.2]
          intro z hz
          rw [Bool.not_eq_true', decide_eq_false_iff_not]
          rintro rfl
          exact hin hz
      · by_cases c3' : o.2.1 = 3
        · rw [au c2', ai c3', aj, ah] at e1
          rw [au c2', ai c3', au (show ¬ o.2.1 = 1 from by omega), au (show ¬ o.2.1 = 4 from by omega), aj, ae, aj, aj, ah, yu n L (by omega), ae] at e2
          have hgl : (gE L).length = L.length := by unfold gE; rw [List.length_map]
          have r1 := akO x0 n L y (by omega) o.2.2.2
          have r2 := ahV n L (by omega) o.2.2.2 o.1 (gE L) (by omega)
          obtain ⟨k1, k2, k3, k4⟩ := Nw o.2.2.2 (gE L) L [] h.web hgn (fun _ hz => hz)
          have hfe : iV (n : Int) ((gE L).filter (wK o.2.2.2)) = true := by
            by_cases hn2 : 2 ≤ n
            · have hG := ahW hg hn2
              exact Ng ⟨hG.1, hG.2.1, hsrt.filter _, fun z hz => hgE z (List.mem_filter.1 hz).1⟩ (by
                have := List.length_filter_le (wK o.2.2.2) (gE L)
                omega)
            · have : gE L = [] := by
                cases hgl' : gE L with
                | nil => rfl
                | cons z zs =>
                  have := dF (hgE z (by rw [hgl']; exact List.mem_cons_self ..));omega
              rw [this]
              exact e0
          obtain ⟨g1, g2, g3⟩ := tail ((gE L).foldl (fZ o.2.2.2) (((n : Int), L), [])).1.2 true ((gE L).filter (wK o.2.2.2)) (Option.bind (lm ((x0, (n : Int), L, y), o.2.2.2)) fun r9 => some (r9.2, (o.1, true, r9.1, []))) (some (((gE L).foldl (fZ o.2.2.2) (((n : Int), L), [])).1, (o.1, true, ((gE L).foldl (fZ o.2.2.2) (((n : Int), L), [])).2, [])))
            (by rw [r1, ae, k1, k4]; rfl) (by rw [k4, List.nil_append]; congr 2; exact Prod.ext k1 rfl) k2 hfe
          refine ⟨_, _, e1.trans g1, e2.trans ((congrArg (fun q => Option.bind q _) r2).trans g2), g3, rfl, rfl, fun hc => by omega, fun hc => by omega, fun _ => ⟨fun x => ?_, rfl, rfl, fun hnil => ?_⟩⟩
          · rw [k3]
            constructor
            · rintro ⟨p1, p2⟩
              refine ⟨p1, ?_⟩
              cases hc : wK o.2.2.2 x with
              | false => rfl
              | true => exact absurd ⟨p1, hc⟩ p2
            · rintro ⟨p1, p2⟩
              exact ⟨p1, fun hc => by rw [p2] at hc; cases hc.2⟩
          · have := acg o.2.2.2 (gE L) (((n : Int), L), []) hnil
            rw [this]
        · rw [au c2', au c3', aj, aj] at e1
          rw [au c2', au c3'] at e2
          have r1 := ame x0 n L y (by omega) o.2.2.1 (by omega)
          have r2 := akP n L (by omega) o.1 o.2.2.1 (by omega)
          have hc : (bif decide (o.2.1 = (1 : Int)) then some true else some (decide (o.2.1 = (4 : Int))) : Option Bool) = some true := by
            by_cases h : o.2.1 = 1
            · rw [ai h]; rfl
            · rw [au h, ai (show o.2.1 = 4 from by omega)]; rfl
          rw [hc, ae, ah] at e2
          have hee := (ik d4)
          obtain ⟨k1, k2, k3, k4⟩ := Ny o.2.2.1 L true h.web hee.1
          obtain ⟨g1, g2, g3⟩ := tail (o.2.2.1.foldl gT (((n : Int), L), true)).1.2 (o.2.2.1.foldl gT (((n : Int), L), true)).2 [] (Option.bind (mh ((x0, (n : Int), L, y), o.2.2.1)) fun r10 => some (r10.2, (o.1, r10.1, [], []))) (some ((o.2.2.1.foldl gT (((n : Int), L), true)).1, (o.1, (o.2.2.1.foldl gT (((n : Int), L), true)).2, [], [])))
            (by rw [r1, ae, k1]) (by congr 2; exact Prod.ext k1 rfl) k2 e0
          refine ⟨_, _, e1.trans g1, e2.trans ((congrArg (fun q => Option.bind q _) r2).trans g2), g3, rfl, rfl, fun _ => ⟨k3, fun hz => k4 (Ca hee.2.1) hz, rfl, fun e he => ?_⟩, fun hc => by omega, fun hc => by omega⟩
          show (o.2.2.1.foldl gT (((n : Int), L), true)).2 = _
          rw [he]
          show (gT (((n : Int), L), true) e).2 = _
          unfold gT
          by_cases hin : e ∈ gE L
          · rw [ai hin]
            simp only [akU h.web hin, Bool.and_false, aZ]
          · rw [au hin]
            simp only [(acf h.web (hee.1 e (by rw [he]; exact List.mem_singleton.2 rfl)) hin).2.1, Bool.and_self, dM]
theorem aoo {n:Nat} (h1:1<=n) (h2:n<=12):WOk n []:=
 ⟨by
  unfold fD
  rw [aQ.2 (by omega),Bool.true_and]
  unfold iV
  rw [if_pos (fun i hi=>absurd hi (by simp [gE]))]
  rfl,fun x hx=>(by cases hx),fun e he=>(by cases he),fun x hx=>(by cases hx),fun k _ _ e he=>(by cases he)⟩
theorem aqd {n:Nat} {x0:Int} (h0:1<=x0/\x0<=3) (h1:1<=n) (h2:n<=12):ShR x0 n [] (0,false,[],[]):=⟨h0,aoo h1 h2,.inl rfl⟩
theorem ach (l:List Sd) (x:Sd) (k:Int):sA (l++[x]) k=if 0<=sA l k then sA l k else if x.1=k then (l.length:Int) else -1:=by
 unfold sA;rw [List.findIdx_append,bZ];by_cases h:l.findIdx (fun y=>decide (y.1=k))<l.length
 ·have h':l.findIdx (fun y=>decide (y.1=k))<l.length+[x].length:=by omega
  simp only [if_pos h,if_pos h'];rw [if_pos (by omega)]
 ·simp only [if_neg h];rw [if_neg (show ¬(0:Int)<=-1 from by decide)];by_cases hx:x.1=k
  ·have h0:[x].findIdx (fun y=>decide (y.1=k))=0:=by simp [List.findIdx_cons,hx]
   rw [h0,if_pos hx,if_pos (by simp only [bA,List.length_nil];omega)];omega
  ·have h0:[x].findIdx (fun y=>decide (y.1=k))=1:=by simp [List.findIdx_cons,hx]
   rw [h0,if_neg hx,if_neg (by simp only [bA,List.length_nil];omega)]
theorem afy {l:List Sd} {i op a b v:Int} (h:tZ l) (hi:sA l i<0) (hv:1<=v/\v<=3):tZ (l++[(i,i,op,a,b,v)]):=by
 intro j hj;rw [bZ] at hj;simp only [bA,List.length_nil] at hj;unfold p4 p4c;by_cases hjl:j<l.length
 ·have h1:=h j hjl;unfold p4 p4c at h1;have hg:(l++[(i,i,op,a,b,v)]).getD j (0,0,0,0,0,0)=l.getD j (0,0,0,0,0,0):=by
   rw [bJ,bJ,List.getElem?_append_left hjl]
  rw [hg];simp only [aP,decide_eq_true_eq] at h1 ⊢;refine ⟨h1.1,h1.2.1,?_⟩;rw [ach,if_pos (by omega)];exact h1.2.2
 ·have hjl':j=l.length:=by omega
  subst hjl';have hg:(l++[(i,i,op,a,b,v)]).getD l.length (0,0,0,0,0,0)=(i,i,op,a,b,v):=by
   rw [bJ,List.getElem?_append_right (Nat.le_refl _),Nat.sub_self];rfl
  rw [hg];simp only [aP,decide_eq_true_eq];refine ⟨trivial,aQ.2 hv,?_⟩;rw [ach,if_neg (by omega),if_pos rfl]
theorem A_ {α:Type} (l:List α) (i j:Nat) (x d:α) (hi:i<l.length):(l.set i x).getD j d=if j=i then x else l.getD j d:=by
 rw [bJ,bJ,List.getElem?_set];by_cases h:i=j
 ·subst h;rw [if_pos rfl,if_pos hi,if_pos rfl];rfl
 ·rw [if_neg h,if_neg (fun h'=>h h'.symm)]
abbrev m_:=List az × An
structure Ply (n:Nat) (own:List Int) (cuts:List Ed) (lab:List (List Int)) (nums:List Int) (said:List Sd) (ss:List m_) (g:List Ed) (c:Nat):Prop where
 n2:2<=n/\n<=12
 k:1<=ss.length/\ss.length<=3/\lab.length=ss.length/\nums.length=ss.length
 owr:own.length=n/\∀v:Int,0<=v/\v<n->1<=own.getD v.toNat 0/\own.getD v.toNat 0<=ss.length
 cgr:GrOk n cuts
 cut:∀e,e∈cuts->own.getD e.1.toNat 0≠own.getD e.2.toNat 0
 sh:∀(j:Nat) (L:List az) (y:An),ss[j]?=some (L,y)->ShR ((j:Int)+1) n L y/\nums.getD j 0=y.1/\y.1<=c/\lab.getD j []=labs n (gE L)/\∀e,e∈gE L->own.getD e.1.toNat 0=(j:Int)+1/\own.getD e.2.toNat 0=(j:Int)+1
 gr:GrOk n g
 gin:∀e,e∈g↔e∈cuts\/∃(j:Nat) (L:List az) (y:An),ss[j]?=some (L,y)/\e∈gE L
 sdo:tZ said/\said.length<=c
section
variable {n:Nat} {own:List Int} {cuts:List Ed} {lab:List (List Int)} {nums:List Int} {said:List Sd} {ss:List m_} {g:List Ed} {c:Nat}
theorem Ply.at (h:Ply n own cuts lab nums said ss g c) {s:Int} (h1:1<=s/\s<=ss.length):∃L y,ss[(s-1).toNat]?=some (L,y):=by
 have hl:(s-1).toNat<ss.length:=by omega
 exact ⟨_,_,aO hl⟩
theorem Oo {x0:Int} {L:List az} {y:An} (h:ShR x0 n L y):kz n (gE L):=fun e he=>by
 have:=dF ((il h.web.gr).1 e he)
 exact ⟨this.1,this.2.1,this.2.2.1,this.2.2.2.1⟩
theorem Ply.hd (h:Ply n own cuts lab nums said ss g c) (hc:c<=80) {t:Bool} (ht:t=true):oI n own cuts lab nums said t=true:=by
 obtain ⟨k1,k2,k3,k4⟩:=h.k;have hn:=h.n2;unfold oI;rw [decide_eq_true_eq];refine ⟨⟨aQ.2 (by omega),aQ.2 (by omega),by omega⟩,fun i hi => ?_,⟨by rw [h.owr.1],Ng h.cgr (FD h.cgr)⟩,fun i hi => ?_,fun i hi => ?_,⟨h.sdo.1,by have:=h.sdo.2;omega⟩,ht⟩
 ·have hl:i<ss.length:=by omega
  obtain ⟨s1,s2,s3,s4,_⟩:=h.sh i _ _ (aO hl);have h0:=s1.len.2.2.2.1;unfold p3;rw [s4,s2,afx (Oo s1),aQ.2 (by omega)];rfl
 ·rw [h.owr.1] at hi;have:=h.owr.2 (i:Int) (by omega);rw [fH] at this;unfold p1;exact aQ.2 (by omega)
 ·unfold p2;have e:cuts.getD i (0,0)=cuts[i]:=by rw [bJ,aO hi];rfl
  rw [e,au (h.cut _ (List.getElem_mem hi))];rfl
theorem Ply.one (h:Ply n own cuts lab nums said ss g c) {e:Ed} {s:Int} (h1:own.getD e.1.toNat 0=s) (h2:own.getD e.2.toNat 0=s) {L:List az} {y:An} (hs:ss[(s-1).toNat]?=some (L,y)) (s1:1<=s):e∈g↔e∈gE L:=by
 rw [h.gin];constructor
 ·rintro (hc|⟨j,L',y',hj,he⟩)
  ·exact absurd (h1.trans h2.symm) (h.cut e hc)
  ·have:=(h.sh j L' y' hj).2.2.2.2 e he;have hjs:j=(s-1).toNat:=by omega
   subst hjs;rw [hs] at hj;cases hj;exact he
 ·intro he;exact .inr ⟨_,_,_,hs,he⟩
theorem Ply.two (h:Ply n own cuts lab nums said ss g c) {e:Ed} (h1:own.getD e.1.toNat 0≠own.getD e.2.toNat 0):e∈g↔e∈cuts:=by
 rw [h.gin];constructor
 ·rintro (hc|⟨j,L',y',hj,he⟩)
  ·exact hc
  ·have:=(h.sh j L' y' hj).2.2.2.2 e he;exact absurd (this.1.trans this.2.symm) h1
 ·exact .inl
theorem Ply.onw (h:Ply n own cuts lab nums said ss g c) {said':List Sd} (hs:tZ said'/\said'.length<=c+1):Ply n own cuts lab nums said' ss g (c+1):=
 ⟨h.n2,h.k,h.owr,h.cgr,h.cut,fun j L y hj=>by
  obtain ⟨s1,s2,s3,s4,s5⟩:=h.sh j L y hj
  exact ⟨s1,s2,by omega,s4,s5⟩,h.gr,h.gin,hs⟩
theorem Ply.upd (h:Ply n own cuts lab nums said ss g c) {s:Int} (hs1:1<=s) {L L':List az} {y z:An} (hs:ss[(s-1).toNat]?=some (L,y)) (hR:ShR s n L' z) (hz:z.1=y.1+1) (hl:z.2.2.2=labs n (gE L'))
  {own':List Int} (ho:own'.length=n/\∀v:Int,0<=v/\v<n->1<=own'.getD v.toNat 0/\own'.getD v.toNat 0<=ss.length) {cuts':List Ed} (hc:GrOk n cuts') (hcut:∀e,e∈cuts'->own'.getD e.1.toNat 0≠own'.getD e.2.toNat 0)
  (hL:∀e,e∈gE L'->own'.getD e.1.toNat 0=s/\own'.getD e.2.toNat 0=s)
  (hoth:∀(j:Nat) (M:List az) (w:An),j≠(s-1).toNat->ss[j]?=some (M,w)->∀e,e∈gE M->own'.getD e.1.toNat 0=(j:Int)+1/\own'.getD e.2.toNat 0=(j:Int)+1)
  {g':List Ed} (hgr:GrOk n g') (hg:∀e,e∈g'↔e∈cuts'\/e∈gE L'\/∃(j:Nat) (M:List az) (w:An),j≠(s-1).toNat/\ss[j]?=some (M,w)/\e∈gE M)
  {said':List Sd} (hsd:tZ said'/\said'.length<=c+1) :
  Ply n own' cuts' (lab.set (s-1).toNat z.2.2.2) (nums.set (s-1).toNat z.1) said' (ss.set (s-1).toNat (L',z)) g' (c+1):=by
 obtain ⟨k1,k2,k3,k4⟩:=h.k;have hlt:=(aS hs).1;refine ⟨h.n2,by simp only [jH];omega,by rw [jH];exact ho,hc,hcut,fun j M w hj => ?_,hgr,fun e => ?_,hsd⟩
 ·rw [List.getElem?_set] at hj;by_cases hjs:(s-1).toNat=j
  ·subst hjs;rw [if_pos rfl,if_pos hlt] at hj;cases hj;have he:(((s-1).toNat:Nat):Int)+1=s:=by omega
   rw [he,A_ _ _ _ _ _ (by omega),A_ _ _ _ _ _ (by omega),if_pos rfl,if_pos rfl];have:=(h.sh _ _ _ hs).2.2.1;exact ⟨hR,rfl,by omega,hl,hL⟩
  ·rw [if_neg hjs] at hj;rw [A_ _ _ _ _ _ (by omega),A_ _ _ _ _ _ (by omega),if_neg (fun h=>hjs h.symm),if_neg (fun h=>hjs h.symm)];obtain ⟨s1,s2,s3,s4,s5⟩:=h.sh j M w hj;exact ⟨s1,s2,by omega,s4,hoth j M w (fun h=>hjs h.symm) hj⟩
 ·rw [hg];constructor
  ·rintro (h1|h1|⟨j,M,w,hj,hm,he⟩)
   ·exact .inl h1
   ·exact .inr ⟨(s-1).toNat,L',z,by rw [List.getElem?_set,if_pos rfl,if_pos hlt],h1⟩
   ·exact .inr ⟨j,M,w,by rw [List.getElem?_set,if_neg (fun h=>hj h.symm)];exact hm,he⟩
  ·rintro (h1|⟨j,M,w,hj,he⟩)
   ·exact .inl h1
   ·rw [List.getElem?_set] at hj;by_cases hjs:(s-1).toNat=j
    ·rw [if_pos hjs,if_pos hlt] at hj;cases hj;exact .inr (.inl he)
    ·rw [if_neg hjs] at hj;exact .inr (.inr ⟨j,M,w,fun h=>hjs h.symm,hj,he⟩)
end
inductive Pnd (n:Nat) (own:List Int) (cuts:List Ed) (lab:List (List Int)) (nums:List Int) (said:List Sd) (ss:List m_) (g:List Ed) (c:Nat):Int->Int->Int->Int->Int->Int->Int->List Ed->Int->Prop
 | idle (h:Ply n own cuts lab nums said ss g c):Pnd n own cuts lab nums said ss g c 0 0 0 0 0 0 0 [] 0
 | chg {i op a b:Int} (h:Ply n own cuts lab nums said ss g c) (hi:aU i 1 100000=true) (hs:sA said i<0) (ho:op=1\/op=2) (ha:0<=a/\a<n) (hb:0<=b/\b<n) (hab:a≠b) (hw:own.getD a.toNat 0=own.getD b.toNat 0) :
   Pnd n own cuts lab nums said ss g c i op a b (own.getD a.toNat 0) (nums.getD (own.getD a.toNat 0-1).toNat 0+1) op [dC a b] 0
 | rel {i a b:Int} (h:Ply n own cuts lab nums said ss g c) (hi:aU i 1 100000=true) (hs:sA said i<0) (ha:0<=a/\a<n) (hb:1<=b/\b<=ss.length) (hw:own.getD a.toNat 0≠b) :
   Pnd n own cuts lab nums said ss g c i 4 a b (own.getD a.toNat 0) (nums.getD (own.getD a.toNat 0-1).toNat 0+1) 3 [] a
 | acc {i a b:Int} {es g':List Ed} (h:Ply n own cuts lab nums said ss g' c) (hi:aU i 1 100000=true) (hs:sA said i<0) (ha:0<=a/\a<n) (hb:1<=b/\b<=ss.length) (hes:GrOk n es/\es≠[]) (hin:∀e,e∈es->own.getD e.1.toNat 0=b/\own.getD e.2.toNat 0=b/\e∉g') (hgr:GrOk n g) (hg:∀e,e∈g↔e∈g'\/e∈es) :
   Pnd n own cuts lab nums said ss g c i 4 a b b (nums.getD (b-1).toNat 0+1) 4 es 0
section
variable {n:Nat} {own:List Int} {cuts:List Ed} {lab:List (List Int)} {nums:List Int} {said:List Sd} {ss:List m_} {g:List Ed} {c:Nat} {x5 x6 x7 x8 x9 x10 x11:Int} {x12:List Ed} {x13:Int}
theorem Pnd.ply (h:Pnd n own cuts lab nums said ss g c x5 x6 x7 x8 x9 x10 x11 x12 x13):∃g',Ply n own cuts lab nums said ss g' c:=by
 cases h with
 | idle h=>exact ⟨_,h⟩
 | chg h=>exact ⟨_,h⟩
 | rel h=>exact ⟨_,h⟩
 | acc h=>exact ⟨_,h⟩
theorem aci {o:Fq} (hn:2<=n/\n<=12) (h1:1<=o.1/\o.1<=100000) (h2:(o.2.1=1\/o.2.1=2)/\o.2.2.1.length=1/\o.2.2.2=0\/o.2.1=3/\o.2.2.1=[]/\(0<=o.2.2.2/\o.2.2.2<n)\/o.2.1=4/\o.2.2.1≠[]/\o.2.2.2=0) (hg:GrOk n o.2.2.1):mX n o=true:=by
 unfold mX;rw [aQ.2 (by omega),aQ.2 h1,aQ.2 (by omega),Ng hg (FD hg)];rcases h2 with ⟨h2,h3,h4⟩|⟨h2,h3,h4⟩|⟨h2,h3,h4⟩
 ·rw [if_neg (by omega),if_neg (by omega),ai h3,ai h4];rfl
 ·rw [if_pos h2,ai (by rw [h3];rfl),aQ.2 (by omega)];rfl
 ·rw [if_neg (by omega),if_pos h2,ai (List.length_pos_iff.2 h3),ai h4];rfl
theorem Nz {a b:Int} (hn:2<=n/\n<=12) (ha:0<=a/\a<n) (hb:0<=b/\b<n) (hab:a≠b):df n (dC a b)=true:=by
 unfold dC df;split
 ·rw [aQ.2 (by omega),aQ.2 (by simp only;omega),aQ.2 (by simp only;omega),ai (by assumption)];rfl
 ·rw [aQ.2 (by omega),aQ.2 (by simp only;omega),aQ.2 (by simp only;omega),ai (by simp only;omega)];rfl
theorem aqe {e:Ed} (hn:2<=n/\n<=12) (he:df n e=true):GrOk n [e]:=
 ⟨by omega,by omega,List.pairwise_singleton _ _,fun x hx=>by rw [List.mem_singleton.1 hx];exact he⟩
theorem acj (hn:2<=n/\n<=12):GrOk n []:=⟨by omega,by omega,List.Pairwise.nil,fun x hx=>by cases hx⟩
theorem Pnd.ord (h:Pnd n own cuts lab nums said ss g c x5 x6 x7 x8 x9 x10 x11 x12 x13) (h9:x9≠0) (hc:c<=80) :
  (1<=x9/\x9<=ss.length)/\∃L y,ss[(x9-1).toNat]?=some (L,y)/\mX n (x10,x11,x12,x13)=true/\x10=y.1+1/\x10=nums.getD (x9-1).toNat 0+1:=by
 have num:∀{g'} (hP:Ply n own cuts lab nums said ss g' c) {s:Int},1<=s/\s<=ss.length->∃L y,ss[(s-1).toNat]?=some (L,y)/\nums.getD (s-1).toNat 0=y.1/\0<=y.1/\y.1<=c:=by
  intro g' hP s hs;obtain ⟨L,y,hy⟩:=hP.at hs;obtain ⟨s1,s2,s3,_⟩:=hP.sh _ _ _ hy;exact ⟨L,y,hy,s2,s1.len.2.2.2.1,s3⟩
 cases h with
 | idle h=>exact absurd rfl h9
 | chg h hi hs ho ha hb hab hw=>
  have hr:=h.owr.2 _ ha;obtain ⟨L,y,hy,y1,y2,y3⟩:=num h hr;exact ⟨hr,L,y,hy,aci h.n2 (by simp only;omega) (.inl ⟨ho,rfl,rfl⟩) (aqe h.n2 (Nz h.n2 ha hb hab)),by omega,rfl⟩
 | rel h hi hs ha hb hw=>
  have hr:=h.owr.2 _ ha;obtain ⟨L,y,hy,y1,y2,y3⟩:=num h hr;exact ⟨hr,L,y,hy,aci h.n2 (by simp only;omega) (.inr (.inl ⟨rfl,rfl,ha⟩)) (acj h.n2),by omega,rfl⟩
 | acc h hi hs ha hb hes hin hgr hg=>
  obtain ⟨L,y,hy,y1,y2,y3⟩:=num h hb;exact ⟨hb,L,y,hy,aci h.n2 (by simp only;omega) (.inr (.inr ⟨rfl,hes.2,rfl⟩)) hes.1,by omega,rfl⟩
theorem ahZ {k:Nat} {op a b:Int} (h:(op=1\/op=2)/\(0<=a/\a<n)/\(0<=b/\b<n)/\a≠b\/op=4/\(0<=a/\a<n)/\(1<=b/\b<=k)):qJ n k op a b=true:=by
 unfold qJ;rcases h with ⟨h1,h2,h3,h4⟩|⟨h1,h2,h3⟩
 ·rw [aQ.2 (by omega),aQ.2 (by omega),au (by omega),aj,aQ.2 (by omega),au h4];rfl
 ·rw [aQ.2 (by omega),aQ.2 (by omega),ai h1,ah,aQ.2 (by omega)];rfl
theorem Pnd.tk (h:Pnd n own cuts lab nums said ss g c x5 x6 x7 x8 x9 x10 x11 x12 x13) (hc:c<=80):mY n lab.length nums said x5 x6 x7 x8 x9 (x10,x11,x12,x13)=true:=by
 unfold mY;by_cases h9:x9=0
 ·have:tB x5 x6 x7 x8 x9 (x10,x11,x12,x13)=true:=by
   have hr:∀{g'} (hP:Ply n own cuts lab nums said ss g' c) {a:Int},0<=a/\a<n->own.getD a.toNat 0≠0:=by
    intro g' hP a ha;have:=hP.owr.2 a ha;omega
   cases h with
   | idle h=>rfl
   | chg h hi hs ho ha hb hab hw=>exact absurd h9 (hr h ha)
   | rel h hi hs ha hb hw=>exact absurd h9 (hr h ha)
   | acc h hi hs ha hb hes hin hgr hg=>omega
  rw [this];rfl
 ·obtain ⟨h1,L,y,h2,h3,h4,h5⟩:=h.ord h9 hc;obtain ⟨g',hP⟩:=h.ply;have hk:=hP.k;have hy:=(hP.sh _ _ _ h2).1.len;have hlast:(aU x5 1 100000&&(!decide (x6=3)&&qJ n lab.length x6 x7 x8))=true/\sA said x5<0:=by
   cases h with
   | idle h=>exact absurd rfl h9
   | chg h hi hs ho ha hb hab hw=>
    rw [hi,au (by omega),ahZ (.inl ⟨ho,ha,hb,hab⟩)];exact ⟨rfl,hs⟩
   | rel h hi hs ha hb hw=>
    rw [hi,ahZ (.inr ⟨rfl,ha,by omega⟩)];exact ⟨rfl,hs⟩
   | acc h hi hs ha hb hes hin hgr hg=>
    rw [hi,ahZ (.inr ⟨rfl,ha,by omega⟩)];exact ⟨rfl,hs⟩
  rw [hlast.1,aQ.2 (show 1<=x9/\x9<=(lab.length:Int) from by omega),h3,wr (n:=nums.getD (x9-1).toNat 0+1) (by omega) (by omega),ai (show (x10,x11,x12,x13).1=nums.getD (x9-1).toNat 0+1 from h5),ai hlast.2];simp
theorem Pnd.hd (h:Pnd n own cuts lab nums said ss g c x5 x6 x7 x8 x9 x10 x11 x12 x13) (hc:c<=80):oI n own cuts lab nums said (mY n lab.length nums said x5 x6 x7 x8 x9 (x10,x11,x12,x13))=true:=by
 obtain ⟨g',hP⟩:=h.ply;exact hP.hd hc (h.tk hc)
end
section
variable {n:Nat} {g:List Ed} (hg:GrOk n g)
include hg
theorem Ju {op a b:Int} (h:op=1\/op=2) (ha:0<=a/\a<n) (hb:0<=b/\b<n) (hab:a≠b) :
  lG n g op a b=(let r:=if op=2 then Ni n g (dC a b) else AZ n g (dC a b);if r.2.2 then (r.1,r.2.1,1) else ((n:Int),g,2)):=by
 unfold lG;rw [aQ.2 (by omega),ai ha.1,ai ha.2,ai hb.1,ai hb.2,au hab];simp only [Bool.and_self,if_true,Bool.false_and,dM];rw [if_neg (by omega),if_neg (by omega)]
theorem WF {a b:Int} (ha:0<=a/\a<n) (hb:0<=b/\b<n) (hab:a≠b) (he:dC a b∉g):lG n g 1 a b=((n:Int),ins g (dC a b),1)/\lG n g 2 a b=((n:Int),g,2):=by
 have hn:2<=n/\n<=12:=by have:=hg.1;have:=hg.2.1;omega
 rw [Ju hg (.inl rfl) ha hb hab,Ju hg (.inr rfl) ha hb hab];unfold Ni AZ;rw [U0 hg,Nz hn ha hb hab,au he];exact ⟨rfl,rfl⟩
theorem WH {a b:Int} (ha:0<=a/\a<n) (hb:0<=b/\b<n) (hab:a≠b) (he:dC a b∈g):lG n g 1 a b=((n:Int),g,2)/\lG n g 2 a b=((n:Int),del g (dC a b),1):=by
 have hn:2<=n/\n<=12:=by have:=hg.1;have:=hg.2.1;omega
 rw [Ju hg (.inl rfl) ha hb hab,Ju hg (.inr rfl) ha hb hab];unfold Ni AZ;rw [U0 hg,Nz hn ha hb hab,ai he];exact ⟨rfl,rfl⟩
omit hg in
theorem RY {a b:Int} (ha:0<=a/\a<n):lG n g 4 a b=((n:Int),g,if aU b 1 3=true then 1 else 3):=by
 unfold lG;rw [aQ.2 (by omega),ai ha.1,ai ha.2];rfl
theorem aop {a b:Int} (ha:0<=a/\a<n) (hb:0<=b/\b<n):lG n g 3 a b=((n:Int),g,if (labs n g).getD a.toNat 0=(labs n g).getD b.toNat 0 then 1 else 2):=by
 unfold lG;rw [aQ.2 (by omega),ai ha.1,ai ha.2,ai hb.1,ai hb.2];simp only [Bool.and_self,if_true,decide_true,aZ,Bool.and_false,dM];rw [if_neg (by omega)];unfold tgB;rw [U0 hg,aQ.2 (by omega),aQ.2 (by omega),fH];simp only [Bool.true_and,decide_eq_true_eq]
omit hg in
theorem aoq {k:Nat} (hk:k<=3) {op a b:Int} (h:qJ n k op a b=false):(lG n g op a b).2.1=g/\((lG n g op a b).2.2=3\/op=4/\(lG n g op a b).2.2=1):=by
 unfold qJ at h;unfold lG;by_cases h1:aU op 1 4=true
 ·rw [h1] at h ⊢;by_cases h2:0<=a/\a<n
  ·rw [aQ.2 (show 0<=a/\a<=(n:Int)-1 from by omega)] at h;rw [ai h2.1,ai h2.2];simp only [Bool.and_self,if_true,Bool.true_and] at h ⊢;by_cases h4:op=4
   ·rw [if_pos h4];refine ⟨rfl,?_⟩;by_cases h5:aU b 1 3=true
    ·exact .inr ⟨h4,by rw [if_pos h5]⟩
    ·exact .inl (by rw [if_neg h5])
   ·rw [au h4,aj] at h;rw [if_neg h4,if_neg]
    ·exact ⟨rfl,.inl rfl⟩
    ·intro hc;simp only [aP,decide_eq_true_eq,Bool.not_eq_true',Bool.and_eq_false_iff,decide_eq_false_iff_not,Bool.not_eq_false'] at hc;rw [aQ.2 (show 0<=b/\b<=(n:Int)-1 from by omega)] at h;simp only [Bool.true_and,Bool.not_eq_false',aP,decide_eq_true_eq,Bool.or_eq_true] at h;rcases hc.2 with h6|h6
     ·exact h6 h.1
     ·omega
  ·rw [if_neg]
   ·exact ⟨rfl,.inl rfl⟩
   ·simp only [aP,decide_eq_true_eq];exact fun hc=>h2 hc.2
 ·rw [if_neg]
  ·exact ⟨rfl,.inl rfl⟩
  ·simp only [aP];exact fun hc=>h1 hc.1
end
def Rpl (n:Nat) (g:List Ed) (op a b v:Int) (g':List Ed):Prop:=
 g'=(if v=3 then g else (lG n g op a b).2.1)/\(1<=v/\v<=3)/\(v=(lG n g op a b).2.2\/op=4/\(v=2\/((lG n g op a b).2.2=1/\v=3)))
theorem afA (a b:Int):(dC a b=(a,b))\/(dC a b=(b,a)):=by
 unfold dC;split
 ·exact .inl rfl
 ·exact .inr rfl
section
variable {n:Nat} {own:List Int} {cuts:List Ed} {lab:List (List Int)} {nums:List Int} {said:List Sd} {ss:List m_} {g:List Ed} {c:Nat}
theorem Ply.split (h:Ply n own cuts lab nums said ss g c) {j0:Nat} {L:List az} {y:An} (hs:ss[j0]?=some (L,y)) (x:Ed):x∈g↔x∈cuts\/x∈gE L\/∃(j:Nat) (M:List az) (w:An),j≠j0/\ss[j]?=some (M,w)/\x∈gE M:=by
 rw [h.gin];constructor
 ·rintro (h1|⟨j,M,w,hj,he⟩)
  ·exact .inl h1
  ·by_cases hjj:j=j0
   ·subst hjj;rw [hs] at hj;cases hj;exact .inr (.inl he)
   ·exact .inr (.inr ⟨j,M,w,hjj,hj,he⟩)
 ·rintro (h1|h1|⟨j,M,w,_,hj,he⟩)
  ·exact .inl h1
  ·exact .inr ⟨j0,L,y,hs,h1⟩
  ·exact .inr ⟨j,M,w,hj,he⟩
theorem Ply.whole (h:Ply n own cuts lab nums said ss g c):(xF n lab cuts).1=labs n g:=by
 obtain ⟨k1,k2,k3,k4⟩:=h.k;have hn:=h.n2;have hlab:∀l,l∈lab->∃(j:Nat) (L:List az) (y:An),ss[j]?=some (L,y)/\l=labs n (gE L)/\ShR ((j:Int)+1) n L y:=by
  intro l hl;obtain ⟨j,hj,rfl⟩:=List.mem_iff_getElem.1 hl;have hjs:j<ss.length:=by omega
  obtain ⟨s1,_,_,s4,_⟩:=h.sh j _ _ (aO hjs);refine ⟨j,_,_,aO hjs,?_,s1⟩;rw [<-s4,bJ,aO hj];rfl
 have hall:lab.all (pL n)=true:=by
  rw [List.all_eq_true];intro l hl;obtain ⟨j,L,y,h1,h2,h3⟩:=hlab l hl;rw [h2];exact aof (Oo h3)
 have hcall:cuts.all (df n)=true:=by
  rw [List.all_eq_true];exact h.cgr.2.2.2
 unfold xF;rw [if_pos]
 ·show labs (n:Int).toNat _=_;rw [fH];have hgin:kz n g:=fun e he=>by
   have:=dF (h.gr.2.2.2 e he);exact ⟨this.1,this.2.1,this.2.2.1,this.2.2.2.1⟩
  have hEV:kz n (lab.flatMap xE++cuts):=fun e he=>by
   rcases List.mem_append.1 he with he|he
   ·obtain ⟨l,hl,he⟩:=List.mem_flatMap.1 he;obtain ⟨j,L,y,h1,h2,h3⟩:=hlab l hl;subst h2;obtain ⟨w,g1,g2⟩:=akx he;have t1:=(iK (Oo h3)).lt g1;have t2:=(aS g1).1;rw [bV] at t2;omega
   ·exact hgin e ((h.gin e).2 (.inl he))
  refine (iK hEV).uniq (iK hgin) fun u v => ?_
  constructor
  ·refine fun hc=>hc.sub fun e he => ?_
   rcases List.mem_append.1 he with he|he
   ·obtain ⟨l,hl,he⟩:=List.mem_flatMap.1 he;obtain ⟨j,L,y,h1,h2,h3⟩:=hlab l hl;subst h2;obtain ⟨w,g1,g2⟩:=akx he;have:=((iK (Oo h3)).2 w _ g1).1;rw [g2];exact (this.mono fun x hx=>(h.gin x).2 (.inr ⟨j,L,y,h1,hx⟩)).symm
   ·exact .of ((h.gin e).2 (.inl he))
  ·refine fun hc=>hc.sub fun e he => ?_
   rcases (h.gin e).1 he with he|⟨j,L,y,hj,he⟩
   ·exact .of (List.mem_append_right _ he)
   ·obtain ⟨s1,_,_,s4,_⟩:=h.sh j L y hj;have hjl:j<lab.length:=by
     have:=(aS hj).1;omega
    have hl:labs n (gE L)∈lab:=by
     rw [<-s4,bJ,aO hjl];exact List.getElem_mem hjl
    have hin:∀x,x∈xE (labs n (gE L))->x∈lab.flatMap xE++cuts:=fun x hx=>List.mem_append_left _ (List.mem_flatMap.2 ⟨_,hl,hx⟩)
    have hL:=iK (Oo s1);obtain ⟨a1,a2,a3,a4⟩:=Oo s1 e he;have i1:e.1.toNat<(labs n (gE L)).length:=by rw [bV];omega
    have i2:e.2.toNat<(labs n (gE L)).length:=by rw [bV];omega
    have g1:=getD_at i1;have g2:=getD_at i2;have hxy:=(hL.iff g1 g2).2 (by rw [Int.toNat_of_nonneg a1,Int.toNat_of_nonneg a3];exact Con.of he);have m1:=hin _ (akw g1);have m2:=hin _ (akw g2);rw [Int.toNat_of_nonneg a1] at m1;rw [Int.toNat_of_nonneg a3,<-hxy] at m2;exact (Con.of m1).symm.trans (Con.of m2)
 ·unfold wlB;rw [aQ.2 (by omega),ai (by omega),hall,hcall];rfl
theorem akV (h:Ply n own cuts lab nums said ss g c) {i op a b:Int} (hi:aU i 1 100000=true) (hs:sA said i<0) :
  ∃(cuts':List Ed) (x5 x6 x7 x8 x9 x10 x11:Int) (x12:List Ed) (x13:Int) (said':List Sd) (told:Int) (g':List Ed),tkM n own cuts lab nums said i op a b=((n:Int),own,cuts',lab,nums,x5,x6,x7,x8,x9,x10,x11,x12,x13,said',told)/\Pnd n own cuts' lab nums said' ss g' (c+1) x5 x6 x7 x8 x9 x10 x11 x12 x13 /\
   ((told=1/\x9=0/\∃v,said'=said++[(i,i,op,a,b,v)]/\Rpl n g op a b v g')\/(told=2/\x9≠0/\said'=said/\g'=g/\x5=i/\x6=op/\x7=a/\x8=b)):=by
 obtain ⟨k1,k2,k3,k4⟩:=h.k;have hn:=h.n2;have hsd:∀v:Int,1<=v/\v<=3->tZ (said++[(i,i,op,a,b,v)])/\(said++[(i,i,op,a,b,v)]).length<=c+1:=fun v hv=>⟨afy h.sdo.1 hs hv,by
  have:=h.sdo.2
  simp only [bZ,bA,List.length_nil]
  omega⟩
 have hmore:=h.onw (said':=said) ⟨h.sdo.1,by have:=h.sdo.2;omega⟩;unfold tkM;by_cases hr:qJ n lab.length op a b=false
 ·rw [if_pos hr];obtain ⟨m1,m2⟩:=aoq (g:=g) (show lab.length<=3 by omega) hr;refine ⟨_,_,_,_,_,_,_,_,_,_,_,_,g,rfl,.idle (h.onw (hsd 3 (by omega))),.inl ⟨rfl,rfl,3,rfl,by rw [if_pos rfl],by omega,?_⟩⟩;rcases m2 with m2|m2
  ·exact .inl m2.symm
  ·exact .inr ⟨m2.1,.inr ⟨m2.2,rfl⟩⟩
 ·rw [if_neg hr];rw [Bool.not_eq_false] at hr;unfold qJ at hr;simp only [aP,aQ] at hr;obtain ⟨r1,r2,r3⟩:=hr;have ha:0<=a/\a<n:=by omega
  by_cases h3:op=3
  ·rw [if_pos h3,h.whole];subst h3;rw [au (by omega),aj] at r3;simp only [aP,aQ] at r3;have hb:0<=b/\b<n:=by omega
   have hm:=aop h.gr ha hb;by_cases hl:(labs n g).getD a.toNat 0=(labs n g).getD b.toNat 0
   ·rw [if_pos hl] at hm ⊢;exact ⟨_,_,_,_,_,_,_,_,_,_,_,_,g,rfl,.idle (h.onw (hsd 1 (by omega))),.inl ⟨rfl,rfl,1,rfl,by rw [if_neg (by omega),hm],by omega,.inl (by rw [hm])⟩⟩
   ·rw [if_neg hl] at hm ⊢;exact ⟨_,_,_,_,_,_,_,_,_,_,_,_,g,rfl,.idle (h.onw (hsd 2 (by omega))),.inl ⟨rfl,rfl,2,rfl,by rw [if_neg (by omega),hm],by omega,.inl (by rw [hm])⟩⟩
  ·rw [if_neg h3];by_cases h4:op=4
   ·rw [if_pos h4];subst h4;rw [ai rfl,ah,aQ] at r3;have hm:=RY (g:=g) (b:=b) ha;by_cases ho:own.getD a.toNat 0=b
    ·rw [if_pos ho];exact ⟨_,_,_,_,_,_,_,_,_,_,_,_,g,rfl,.idle (h.onw (hsd 2 (by omega))),.inl ⟨rfl,rfl,2,rfl,by rw [if_neg (by omega),hm],by omega,.inr ⟨rfl,.inl rfl⟩⟩⟩
    ·rw [if_neg ho];have:=h.owr.2 a ha;exact ⟨_,_,_,_,_,_,_,_,_,_,_,_,g,rfl,.rel hmore hi hs ha (by omega) ho,.inr ⟨rfl,by omega,rfl,rfl,rfl,rfl,rfl,rfl⟩⟩
   ·rw [if_neg h4];rw [au h4,aj] at r3;simp only [aP,aQ,Bool.not_eq_true',Bool.and_eq_false_iff,decide_eq_false_iff_not,Bool.or_eq_false_iff] at r3;have hb:0<=b/\b<n:=by omega
    have hop:op=1\/op=2:=by omega
    have hab:a≠b:=by
     rcases r3.2 with h|h
     ·exact h
     ·omega
    have hed:=Nz hn ha hb hab;unfold tkE;have hoe:(own.getD (dC a b).1.toNat 0=own.getD (dC a b).2.toNat 0↔own.getD a.toNat 0=own.getD b.toNat 0)/\(own.getD a.toNat 0=own.getD b.toNat 0->own.getD (dC a b).1.toNat 0=own.getD a.toNat 0):=by
     rcases afA a b with h|h
     ·rw [h];exact ⟨Iff.rfl,fun _=>rfl⟩
     ·rw [h];exact ⟨⟨fun h=>h.symm,fun h=>h.symm⟩,fun h=>h.symm⟩
    by_cases hw:own.getD (dC a b).1.toNat 0=own.getD (dC a b).2.toNat 0
    ·rw [if_pos hw];have hw':=hoe.1.1 hw;rw [hoe.2 hw'];have:=h.owr.2 a ha;have hop2:(if op=2 then (2:Int) else 1)=op:=by
      rcases hop with h|h<;>subst h<;>rfl
     rw [hop2];exact ⟨_,_,_,_,_,_,_,_,_,_,_,_,g,rfl,.chg hmore hi hs hop ha hb hab hw',.inr ⟨rfl,by omega,rfl,rfl,rfl,rfl,rfl,rfl⟩⟩
    ·rw [if_neg hw];have hcg:=h.two hw;by_cases hin:dC a b∈cuts
     ·have hg':=hcg.2 hin;obtain ⟨m1,m2⟩:=WH h.gr ha hb hab hg';rcases hop with rfl|rfl
      ·rw [ai hin,if_pos (by decide)];exact ⟨_,_,_,_,_,_,_,_,_,_,_,_,g,rfl,.idle (h.onw (hsd 2 (by omega))),.inl ⟨rfl,rfl,2,rfl,by rw [if_neg (by omega),m1],by omega,.inl (by rw [m1])⟩⟩
      ·rw [ai hin,if_neg (by decide),if_pos hin];refine ⟨_,_,_,_,_,_,_,_,_,_,_,_,del g (dC a b),rfl,.idle ⟨h.n2,h.k,h.owr,h.cgr.del,fun e he=>h.cut e (kR.1 he).1,fun j L y hj => ?_,h.gr.del,fun e => ?_,hsd 1 (by omega)⟩,.inl ⟨rfl,rfl,1,rfl,by rw [if_neg (by omega),m2],by omega,.inl (by rw [m2])⟩⟩
       ·obtain ⟨s1,s2,s3,s4,s5⟩:=h.sh j L y hj;exact ⟨s1,s2,by omega,s4,s5⟩
       ·rw [kR,kR,h.gin];constructor
        ·rintro ⟨h1|h1,h2⟩
         ·exact .inl ⟨h1,h2⟩
         ·exact .inr h1
        ·rintro (h1|⟨j,L,y,hj,he⟩)
         ·exact ⟨.inl h1.1,h1.2⟩
         ·refine ⟨.inr ⟨j,L,y,hj,he⟩,?_⟩;rintro rfl;have:=(h.sh j L y hj).2.2.2.2 _ he;exact hw (this.1.trans this.2.symm)
     ·have hg':dC a b∉g:=fun h'=>hin (hcg.1 h')
      obtain ⟨m1,m2⟩:=WF h.gr ha hb hab hg';rcases hop with rfl|rfl
      ·rw [au hin,if_neg (by decide),if_neg hin];refine ⟨_,_,_,_,_,_,_,_,_,_,_,_,ins g (dC a b),rfl,.idle ⟨h.n2,h.k,h.owr,h.cgr.ins hed,fun e he => ?_,fun j L y hj => ?_,h.gr.ins hed,fun e => ?_,hsd 1 (by omega)⟩,.inl ⟨rfl,rfl,1,rfl,by rw [if_neg (by omega),m1],by omega,.inl (by rw [m1])⟩⟩
       ·rcases jq.1 he with rfl|he
        ·exact hw
        ·exact h.cut e he
       ·obtain ⟨s1,s2,s3,s4,s5⟩:=h.sh j L y hj;exact ⟨s1,s2,by omega,s4,s5⟩
       ·rw [jq,jq,h.gin];constructor
        ·rintro (h1|h1|h1)
         ·exact .inl (.inl h1)
         ·exact .inl (.inr h1)
         ·exact .inr h1
        ·rintro ((h1|h1)|h1)
         ·exact .inl h1
         ·exact .inr (.inl h1)
         ·exact .inr (.inr h1)
      ·rw [au hin,if_pos (by decide)];exact ⟨_,_,_,_,_,_,_,_,_,_,_,_,g,rfl,.idle (h.onw (hsd 2 (by omega))),.inl ⟨rfl,rfl,2,rfl,by rw [if_neg (by omega),m2],by omega,.inl (by rw [m2])⟩⟩
end
theorem ah0 (a:List Int) (ha:a.length<=1048576):∃v,Gf a=some (v,())/\0<=v/\v<=60:=by
 show ∃v,Gd BIG _=_/\_;rw [agt,au (by omega),aj];have h1:Int.tdiv (a.length:Int) 4=(a.length:Int) / 4:=Int.tdiv_eq_ediv_of_nonneg (by omega);rw [h1,wr (n:=(a.length:Int) / 4) (by omega) (by omega),wr (n:=12+(a.length:Int) / 4) (by omega) (by omega)];by_cases h:(60:Int)<12+(a.length:Int) / 4
 ·rw [ai h];exact ⟨60,rfl,by omega,by omega⟩
 ·rw [au h];exact ⟨_,rfl,by omega,by omega⟩
theorem P6 {x:Ed}:∀(es c:List Ed),x∈es.foldl ins c↔x∈c\/x∈es
 | [],c=>by simp
 | e::es,c=>by
  rw [List.foldl_cons,P6 es,jq,List.mem_cons];constructor
  ·rintro ((h|h)|h)
   ·exact .inr (.inl h)
   ·exact .inl h
   ·exact .inr (.inr h)
  ·rintro (h|h|h)
   ·exact .inl (.inr h)
   ·exact .inl (.inl h)
   ·exact .inr h
theorem U1 {n:Int}:∀(es c:List Ed),GrOk n c->(∀e,e∈es->df n e=true)->GrOk n (es.foldl ins c)
 | [],c,h,_=>h
 | e::es,c,h,he=>U1 es (ins c e) (h.ins (he e (List.mem_cons_self ..))) fun x hx=>he x (List.mem_cons_of_mem _ hx)
theorem lQ {x:Ed}:∀(es c:List Ed),x∈es.foldl del c↔x∈c/\x∉es
 | [],c=>by simp
 | e::es,c=>by
  rw [List.foldl_cons,lQ es,kR,List.mem_cons];constructor
  ·rintro ⟨⟨h1,h2⟩,h3⟩;exact ⟨h1,fun h=>h.elim h2 h3⟩
  ·rintro ⟨h1,h2⟩;exact ⟨⟨h1,fun h=>h2 (.inl h)⟩,fun h=>h2 (.inr h)⟩
theorem Jv {n:Int}:∀(es c:List Ed),GrOk n c->GrOk n (es.foldl del c)
 | [],c,h=>h
 | e::es,c,h=>Jv es (del c e) h.del
theorem akW {own:List Int} {n:Nat} (hl:own.length=n) {b:Int} {x:Ed} (hx:df n x=true):AU own b x=true↔own.getD x.1.toNat 0=b/\own.getD x.2.toNat 0=b:=by
 have hr:=dF hx;have g:∀v:Int,0<=v/\v<n->own[v.toNat]?=some (own.getD v.toNat 0):=fun v hv=>by
  have:v.toNat<own.length:=by omega
  rw [bJ,aO this];rfl
 unfold AU;rw [g _ ⟨hr.1,hr.2.1⟩,g _ ⟨hr.2.2.1,hr.2.2.2.1⟩,ai hr.1,ai hr.2.2.1,ai (show x.1<own.length by omega),ai (show x.2<own.length by omega)];simp
theorem Dne.labs {n:Nat} {L L':List az} {o:Fq} {z:An} (h:Dne n L L' o z) {x0:Int} (hR:ShR x0 n L' z):z.2.2.2=Go.Fw.labs n (gE L'):=h.lab.trans hR.web.labs
section
variable {n:Nat} {own:List Int} {cuts:List Ed} {lab:List (List Int)} {nums:List Int} {said:List Sd} {ss:List m_} {g:List Ed} {c:Nat} {x5 x6 x7 x8 x9 x10 x11:Int} {x12:List Ed} {x13:Int}
theorem Ply.own_at (h:Ply n own cuts lab nums said ss g c) {a b:Int} (ha:0<=a/\a<n) (hb:1<=b/\b<=ss.length) :
  (∀v:Int,0<=v/\v<n->(own.set a.toNat b).getD v.toNat 0=if v=a then b else own.getD v.toNat 0)/\(own.set a.toNat b).length=n/\∀v:Int,0<=v/\v<n->1<=(own.set a.toNat b).getD v.toNat 0/\(own.set a.toNat b).getD v.toNat 0<=ss.length:=by
 have hl:=h.owr.1;have h0:∀v:Int,0<=v/\v<n->(own.set a.toNat b).getD v.toNat 0=if v=a then b else own.getD v.toNat 0:=by
  intro v hv;rw [A_ _ _ _ _ _ (by omega)];by_cases hva:v=a
  ·rw [if_pos (by rw [hva]),if_pos hva]
  ·rw [if_neg (by omega),if_neg hva]
 refine ⟨h0,by rw [jH];exact hl,fun v hv => ?_⟩;rw [h0 v hv];split
 ·exact hb
 ·exact h.owr.2 v hv
theorem akX (h:Pnd n own cuts lab nums said ss g c x5 x6 x7 x8 x9 x10 x11 x12 x13) (h9:x9≠0) (h1:1<=x9) {L L':List az} {y z:An} (hs:ss[(x9-1).toNat]?=some (L,y)) (hnum:x10=y.1+1) (hR:ShR x9 n L' z) (hD:Dne n L L' (x10,x11,x12,x13) z) :
  ∃(own':List Int) (cuts':List Ed) (t5 t6 t7 t8 t9 t10 t11:Int) (t12:List Ed) (t13:Int) (said':List Sd) (told:Int) (g':List Ed),
   heM n own cuts (lab.set (x9-1).toNat z.2.2.2) (nums.set (x9-1).toNat z.1) said x5 x6 x7 x8 x11 z.2.1 z.2.2.1=((n:Int),own',cuts',lab.set (x9-1).toNat z.2.2.2,nums.set (x9-1).toNat z.1,t5,t6,t7,t8,t9,t10,t11,t12,t13,said',told) /\
   Pnd n own' cuts' (lab.set (x9-1).toNat z.2.2.2) (nums.set (x9-1).toNat z.1) said' (ss.set (x9-1).toNat (L',z)) g' (c+1) t5 t6 t7 t8 t9 t10 t11 t12 t13 /\
   ((told=1/\t9=0/\∃v,said'=said++[(x5,x5,x6,x7,x8,v)]/\Rpl n g x6 x7 x8 v g')\/(told=2/\t9≠0/\said'=said/\g'=g/\t5=x5/\t6=x6/\t7=x7/\t8=x8/\x11=3/\t11=4)):=by
 have hz:z.1=y.1+1:=hD.num.trans hnum;have hl:=hD.labs hR;have sd:∀{g'} (hP:Ply n own cuts lab nums said ss g' c) (hsa:sA said x5<0) (v:Int),1<=v/\v<=3->tZ (said++[(x5,x5,x6,x7,x8,v)])/\(said++[(x5,x5,x6,x7,x8,v)]).length<=c+1:=fun hP hsa v hv=>⟨afy hP.sdo.1 hsa hv,by
  have:=hP.sdo.2
  simp only [bZ,bA,List.length_nil]
  omega⟩
 cases h with
 | idle h=>exact absurd rfl h9
 | chg h hi hsa ho ha hb hab hw=>
  have hn:=h.n2;obtain ⟨hL,hy⟩:=h.sh _ _ _ hs;have hsc:(((own.getD x7.toNat 0-1).toNat:Nat):Int)+1=own.getD x7.toNat 0:=by omega
  have hed:=Nz hn ha hb hab;have hoe:own.getD (dC x7 x8).1.toNat 0=own.getD x7.toNat 0/\own.getD (dC x7 x8).2.toNat 0=own.getD x7.toNat 0:=by
   rcases afA x7 x8 with h'|h'
   ·rw [h'];exact ⟨rfl,hw.symm⟩
   ·rw [h'];exact ⟨hw.symm,rfl⟩
  have hone:=h.one hoe.1 hoe.2 hs h1;have hown:∀e,e∈gE L->own.getD e.1.toNat 0=own.getD x7.toNat 0/\own.getD e.2.toNat 0=own.getD x7.toNat 0:=fun e he=>by
   have:=hy.2.2.2 e he;rw [hsc] at this;exact this
  have hoth:∀(j:Nat) (M:List az) (w:An),j≠(own.getD x7.toNat 0-1).toNat->ss[j]?=some (M,w)->∀e,e∈gE M->own.getD e.1.toNat 0=(j:Int)+1/\own.getD e.2.toNat 0=(j:Int)+1:=fun j M w _ hj e he=>(h.sh j M w hj).2.2.2.2 e he
  have hne:∀(j:Nat) (M:List az) (w:An),j≠(own.getD x7.toNat 0-1).toNat->ss[j]?=some (M,w)->dC x7 x8∉gE M:=fun j M w hj hm hin=>by
   have:=hoth j M w hj hm _ hin;omega
  have hnc:dC x7 x8∉cuts:=fun hin=>h.cut _ hin (hoe.1.trans hoe.2.symm)
  unfold heM;rw [if_neg (by omega)];rcases ho with rfl|rfl
  ·obtain ⟨d1,_,_,d4⟩:=hD.add (.inl rfl);have d4:=d4 _ rfl;have hLo:∀e,e∈gE L'->own.getD e.1.toNat 0=own.getD x7.toNat 0/\own.getD e.2.toNat 0=own.getD x7.toNat 0:=fun e he=>by
    rcases (d1 e).1 he with he|he
    ·exact hown e he
    ·rw [List.mem_singleton.1 he];exact hoe
   by_cases hin:dC x7 x8∈gE L
   ·obtain ⟨m1,_⟩:=WH h.gr ha hb hab (hone.2 hin);rw [ai hin] at d4;rw [d4];refine ⟨_,_,_,_,_,_,_,_,_,_,_,_,_,g,rfl,.idle (h.upd h1 hs hR hz hl h.owr h.cgr h.cut hLo hoth h.gr (fun e => ?_) (sd h hsa 2 (by omega))),.inl ⟨rfl,rfl,2,rfl,by rw [if_neg (by omega),m1],by omega,.inl (by rw [m1])⟩⟩;rw [h.split hs,d1];constructor
    ·rintro (h|h|h)
     ·exact .inl h
     ·exact .inr (.inl (.inl h))
     ·exact .inr (.inr h)
    ·rintro (h | (h|h)|h)
     ·exact .inl h
     ·exact .inr (.inl h)
     ·rw [List.mem_singleton.1 h];exact .inr (.inl hin)
     ·exact .inr (.inr h)
   ·have hg':dC x7 x8∉g:=fun h'=>hin (hone.1 h')
    obtain ⟨m1,_⟩:=WF h.gr ha hb hab hg';rw [au hin] at d4;rw [d4];refine ⟨_,_,_,_,_,_,_,_,_,_,_,_,_,ins g (dC x7 x8),rfl,.idle (h.upd h1 hs hR hz hl h.owr h.cgr h.cut hLo hoth (h.gr.ins hed) (fun e => ?_) (sd h hsa 1 (by omega))),.inl ⟨rfl,rfl,1,rfl,by rw [if_neg (by omega),m1],by omega,.inl (by rw [m1])⟩⟩;rw [jq,h.split hs,d1];constructor
    ·rintro (h|h|h|h)
     ·exact .inr (.inl (.inr (List.mem_singleton.2 h)))
     ·exact .inl h
     ·exact .inr (.inl (.inl h))
     ·exact .inr (.inr h)
    ·rintro (h | (h|h)|h)
     ·exact .inr (.inl h)
     ·exact .inr (.inr (.inl h))
     ·exact .inl (List.mem_singleton.1 h)
     ·exact .inr (.inr (.inr h))
  ·obtain ⟨e',q1,q2,q3,_⟩:=hD.take rfl;have q0:e'=dC x7 x8:=by
    have:[dC x7 x8]=[e']:=q1;simp only [List.cons.injEq,and_true] at this;exact this.symm
   subst q0;have hLo:∀e,e∈gE L'->own.getD e.1.toNat 0=own.getD x7.toNat 0/\own.getD e.2.toNat 0=own.getD x7.toNat 0:=fun e he=>by
    rw [q2,kR] at he;exact hown e he.1
   by_cases hin:dC x7 x8∈gE L
   ·obtain ⟨_,m1⟩:=WH h.gr ha hb hab (hone.2 hin);rw [ai hin] at q3;rw [q3];refine ⟨_,_,_,_,_,_,_,_,_,_,_,_,_,del g (dC x7 x8),rfl,.idle (h.upd h1 hs hR hz hl h.owr h.cgr h.cut hLo hoth h.gr.del (fun e => ?_) (sd h hsa 1 (by omega))),.inl ⟨rfl,rfl,1,rfl,by rw [if_neg (by omega),m1],by omega,.inl (by rw [m1])⟩⟩;rw [kR,h.split hs,q2,kR];constructor
    ·rintro ⟨h|h|h,h'⟩
     ·exact .inl h
     ·exact .inr (.inl ⟨h,h'⟩)
     ·exact .inr (.inr h)
    ·rintro (h|h|h)
     ·exact ⟨.inl h,by rintro rfl;exact hnc h⟩
     ·exact ⟨.inr (.inl h.1),h.2⟩
     ·refine ⟨.inr (.inr h),?_⟩;obtain ⟨j,M,w,hj,hm,he⟩:=h;rintro rfl;exact hne j M w hj hm he
   ·have hg':dC x7 x8∉g:=fun h'=>hin (hone.1 h')
    obtain ⟨_,m1⟩:=WF h.gr ha hb hab hg';rw [au hin] at q3;rw [q3];refine ⟨_,_,_,_,_,_,_,_,_,_,_,_,_,g,rfl,.idle (h.upd h1 hs hR hz hl h.owr h.cgr h.cut hLo hoth h.gr (fun e => ?_) (sd h hsa 2 (by omega))),.inl ⟨rfl,rfl,2,rfl,by rw [if_neg (by omega),m1],by omega,.inl (by rw [m1])⟩⟩;rw [h.split hs,q2,kR];constructor
    ·rintro (h|h|h)
     ·exact .inl h
     ·exact .inr (.inl ⟨h,by rintro rfl;exact hin h⟩)
     ·exact .inr (.inr h)
    ·rintro (h|h|h)
     ·exact .inl h
     ·exact .inr (.inl h.1)
     ·exact .inr (.inr h)
 | rel h hi hsa ha hb hw=>
  have hn:=h.n2;obtain ⟨hL,hy⟩:=h.sh _ _ _ hs;have hsc:(((own.getD x7.toNat 0-1).toNat:Nat):Int)+1=own.getD x7.toNat 0:=by omega
  obtain ⟨d1,_,d3,_⟩:=hD.rel rfl;have hown:∀e,e∈gE L->own.getD e.1.toNat 0=own.getD x7.toNat 0/\own.getD e.2.toNat 0=own.getD x7.toNat 0:=fun e he=>by
   have:=hy.2.2.2 e he;rw [hsc] at this;exact this
  have hLe:∀e,e∈gE L->df n e=true:=(il hL.web.gr).1;have hges:∀x,x∈z.2.2.1↔x∈gE L/\(x.1=x7\/x.2=x7):=fun x=>by
   rw [d3,List.mem_filter];unfold wK;rw [decide_eq_true_eq]
  have hgL':∀x,x∈gE L'↔x∈gE L/\¬(x.1=x7\/x.2=x7):=fun x=>by
   rw [d1];unfold wK;rw [decide_eq_false_iff_not]
  have hgin:∀x,x∈g->df n x=true:=h.gr.2.2.2;have hCm:∀x,x∈lW cuts z.2.2.1↔x∈cuts\/x∈z.2.2.1:=fun x=>P6 _ _
  have hCg:∀x,x∈lW cuts z.2.2.1->x∈g:=fun x hx=>by
   rw [h.split hs];rcases (hCm x).1 hx with hx|hx
   ·exact .inl hx
   ·exact .inr (.inl ((hges x).1 hx).1)
  have hCgr:GrOk n (lW cuts z.2.2.1):=U1 _ _ h.cgr fun e he=>hLe e ((hges e).1 he).1
  obtain ⟨o1,o2,o3⟩:=h.own_at ha hb;have hIm:∀x,x∈jD own cuts z.2.2.1 x7 x8↔x∈lW cuts z.2.2.1/\(own.set x7.toNat x8).getD x.1.toNat 0=x8/\(own.set x7.toNat x8).getD x.2.toNat 0=x8:=fun x=>by
   unfold jD;rw [List.mem_filter];constructor
   ·rintro ⟨p1,p2⟩;exact ⟨p1,(akW o2 (hgin x (hCg x p1))).1 p2⟩
   ·rintro ⟨p1,p2⟩;exact ⟨p1,(akW o2 (hgin x (hCg x p1))).2 p2⟩
  have hIg:∀x,x∈jD own cuts z.2.2.1 x7 x8->x∈g:=fun x hx=>hCg x ((hIm x).1 hx).1
  have hIgr:GrOk n (jD own cuts z.2.2.1 x7 x8):=⟨hCgr.1,hCgr.2.1,hCgr.2.2.1.filter _,fun e he=>hCgr.2.2.2 e ((hIm e).1 he).1⟩
  have hdis:∀e,e∈z.2.2.1->e∉cuts:=fun e he hc=>by
   have:=hown e ((hges e).1 he).1;exact h.cut e hc (this.1.trans this.2.symm)
  have hset:∀x:Ed,df n x=true->x.1≠x7/\x.2≠x7->(own.set x7.toNat x8).getD x.1.toNat 0=own.getD x.1.toNat 0/\(own.set x7.toNat x8).getD x.2.toNat 0=own.getD x.2.toNat 0:=fun x hx hne=>by
   have hr:=dF hx;rw [o1 _ ⟨hr.1,hr.2.1⟩,o1 _ ⟨hr.2.2.1,hr.2.2.2.1⟩,if_neg hne.1,if_neg hne.2];exact ⟨rfl,rfl⟩
  have hP:∀{said':List Sd},tZ said'/\said'.length<=c+1->Ply n (own.set x7.toNat x8) ((jD own cuts z.2.2.1 x7 x8).foldl del (lW cuts z.2.2.1)) (lab.set (own.getD x7.toNat 0-1).toNat z.2.2.2) (nums.set (own.getD x7.toNat 0-1).toNat z.1) said' (ss.set (own.getD x7.toNat 0-1).toNat (L',z)) ((jD own cuts z.2.2.1 x7 x8).foldl del g) (c+1):=by
   intro said' hsd;have hothm:∀(j:Nat) (M:List az) (w:An),j≠(own.getD x7.toNat 0-1).toNat->ss[j]?=some (M,w)->∀e,e∈gE M->df n e=true/\(own.getD e.1.toNat 0=(j:Int)+1/\own.getD e.2.toNat 0=(j:Int)+1)/\e.1≠x7/\e.2≠x7:=fun j M w hj hm e he=>by
    obtain ⟨s1,_,_,_,s5⟩:=h.sh j M w hm;have:=s5 e he;refine ⟨(il s1.web.gr).1 e he,this,fun hc => ?_,fun hc => ?_⟩
    ·rw [hc] at this;omega
    ·rw [hc] at this;omega
   refine h.upd h1 hs hR hz hl ⟨o2,o3⟩ (Jv _ _ hCgr) (fun e he => ?_) (fun e he => ?_) (fun j M w hj hm e he => ?_) (Jv _ _ h.gr) (fun e => ?_) hsd
   ·obtain ⟨p1,p2⟩:=(lQ _ _).1 he;intro heq;have hb':=hgin e (hCg e p1);have hr:=dF hb';have hI:(own.set x7.toNat x8).getD e.1.toNat 0≠x8:=fun h'=>p2 ((hIm e).2 ⟨p1,h',heq▸h'⟩)
    have e1:=o1 _ (show 0<=e.1/\e.1<(n:Int) from ⟨hr.1,hr.2.1⟩);have e2:=o1 _ (show 0<=e.2/\e.2<(n:Int) from ⟨hr.2.2.1,hr.2.2.2.1⟩);by_cases h1':e.1=x7
    ·rw [if_pos h1'] at e1;exact hI e1
    ·by_cases h2':e.2=x7
     ·rw [if_pos h2'] at e2;exact hI (heq.trans e2)
     ·rw [if_neg h1'] at e1;rw [if_neg h2'] at e2;rw [e1,e2] at heq;rcases (hCm e).1 p1 with p1|p1
      ·exact h.cut e p1 heq
      ·rcases ((hges e).1 p1).2 with h'|h'
       ·exact h1' h'
       ·exact h2' h'
   ·obtain ⟨p1,p2⟩:=(hgL' e).1 he;have:=hset e (hLe e p1) ⟨fun h'=>p2 (.inl h'),fun h'=>p2 (.inr h')⟩;rw [this.1,this.2];exact hown e p1
   ·obtain ⟨p0,p1,p2⟩:=hothm j M w hj hm e he;have:=hset e p0 p2;rw [this.1,this.2];exact p1
   ·rw [lQ,lQ,hCm,h.split hs];constructor
    ·rintro ⟨p|p|p,p'⟩
     ·exact .inl ⟨.inl p,p'⟩
     ·by_cases hv:e.1=x7\/e.2=x7
      ·exact .inl ⟨.inr ((hges e).2 ⟨p,hv⟩),p'⟩
      ·exact .inr (.inl ((hgL' e).2 ⟨p,hv⟩))
     ·exact .inr (.inr p)
    ·rintro (⟨p|p,p'⟩|p|p)
     ·exact ⟨.inl p,p'⟩
     ·exact ⟨.inr (.inl ((hges e).1 p).1),p'⟩
     ·obtain ⟨p1,p2⟩:=(hgL' e).1 p;refine ⟨.inr (.inl p1),fun hI => ?_⟩;have:=hset e (hLe e p1) ⟨fun h'=>p2 (.inl h'),fun h'=>p2 (.inr h')⟩;have h3:=((hIm e).1 hI).2.1;rw [this.1,(hown e p1).1] at h3;exact hw h3
     ·refine ⟨.inr (.inr p),fun hI => ?_⟩;obtain ⟨j,M,w,hj,hm,he⟩:=p;obtain ⟨p0,p1,p2⟩:=hothm j M w hj hm e he;rcases (hCm e).1 ((hIm e).1 hI).1 with p|p
      ·exact h.cut e p (p1.1.trans p1.2.symm)
      ·rcases ((hges e).1 p).2 with h'|h'
       ·exact p2.1 h'
       ·exact p2.2 h'
  unfold heM;rw [if_pos rfl,if_pos rfl];unfold Np;rw [if_pos hdis];by_cases h0:(jD own cuts z.2.2.1 x7 x8).length=0
  ·rw [if_pos h0];have h0':=List.length_eq_zero_iff.1 h0;have hm:=RY (g:=g) (b:=x8) ha;rw [if_pos (aQ.2 (by have:=h.k;omega))] at hm;have:=hP (sd h hsa 1 (by omega));rw [h0'] at this;exact ⟨_,_,_,_,_,_,_,_,_,_,_,_,_,g,rfl,.idle this,.inl ⟨rfl,rfl,1,rfl,by rw [if_neg (by omega),hm],by omega,.inl (by rw [hm])⟩⟩
  ·rw [if_neg h0];refine ⟨_,_,_,_,_,_,_,_,_,_,_,_,_,g,rfl,.acc (hP (said':=said) ⟨h.sdo.1,by have:=h.sdo.2;omega⟩) hi hsa ha (by rw [jH];exact hb) ⟨hIgr,fun h'=>h0 (by rw [h'];rfl)⟩ (fun e he => ?_) h.gr (fun e => ?_),.inr ⟨rfl,by omega,rfl,rfl,rfl,rfl,rfl,rfl,rfl,rfl⟩⟩
   ·have:=(hIm e).1 he;exact ⟨this.2.1,this.2.2,fun h'=>((lQ _ _).1 h').2 he⟩
   ·rw [lQ];constructor
    ·intro he;by_cases hI:e∈jD own cuts z.2.2.1 x7 x8
     ·exact .inr hI
     ·exact .inl ⟨he,hI⟩
    ·rintro (he|he)
     ·exact he.1
     ·exact hIg e he
 | acc h hi hsa ha hb hes hin hgr hg=>
  obtain ⟨hL,hy⟩:=h.sh _ _ _ hs;have hsc:(((x8-1).toNat:Nat):Int)+1=x8:=by omega
  obtain ⟨d1,_,_,_⟩:=hD.add (.inr rfl);have hm:=RY (g:=g) (b:=x8) ha;rw [if_pos (aQ.2 (by have:=h.k;omega))] at hm;unfold heM;rw [if_pos rfl,if_neg (by omega)];refine ⟨_,_,_,_,_,_,_,_,_,_,_,_,_,g,rfl,.idle (h.upd h1 hs hR hz hl h.owr h.cgr h.cut (fun e he => ?_) (fun j M w _ hj e he=>(h.sh j M w hj).2.2.2.2 e he) hgr (fun e => ?_) (sd h hsa 1 (by omega))),.inl ⟨rfl,rfl,1,rfl,by rw [if_neg (by omega),hm],by omega,.inl (by rw [hm])⟩⟩
  ·rcases (d1 e).1 he with he|he
   ·have:=hy.2.2.2 e he;rw [hsc] at this;exact this
   ·exact ⟨(hin e he).1,(hin e he).2.1⟩
  ·rw [hg,h.split hs,d1];constructor
   ·rintro ((h|h|h)|h)
    ·exact .inl h
    ·exact .inr (.inl (.inl h))
    ·exact .inr (.inr h)
    ·exact .inr (.inl (.inr h))
   ·rintro (h | (h|h)|h)
    ·exact .inl (.inl h)
    ·exact .inl (.inr (.inl h))
    ·exact .inr h
    ·exact .inl (.inr (.inr h))
end
def t_ (n:Int) (g:List Ed) (s:Sd):List Ed:=if s.2.2.2.2.2=3 then g else (lG n g s.2.2.1 s.2.2.2.1 s.2.2.2.2.1).2.1
def shO (h:Hd):Int:=h.2.2.2.2.2.2.2.2.2.1
def bX (h:Hd):List Sd:=h.2.2.2.2.2.2.2.2.2.2.2.2.2.2
def P7 (h:Hd):Fq:=(h.2.2.2.2.2.2.2.2.2.2.1,h.2.2.2.2.2.2.2.2.2.2.2.1,h.2.2.2.2.2.2.2.2.2.2.2.2.1,h.2.2.2.2.2.2.2.2.2.2.2.2.2.1)
def qO (h:Hd):Int × Int × Int × Int:=(h.2.2.2.2.2.1,h.2.2.2.2.2.2.1,h.2.2.2.2.2.2.2.1,h.2.2.2.2.2.2.2.2.1)
abbrev NA (h:Hd) (t:Int):JO:=(h.1,h.2.1,h.2.2.1,h.2.2.2.1,h.2.2.2.2.1,h.2.2.2.2.2.1,h.2.2.2.2.2.2.1,h.2.2.2.2.2.2.2.1,h.2.2.2.2.2.2.2.2.1,h.2.2.2.2.2.2.2.2.2.1,h.2.2.2.2.2.2.2.2.2.2.1,h.2.2.2.2.2.2.2.2.2.2.2.1,h.2.2.2.2.2.2.2.2.2.2.2.2.1,h.2.2.2.2.2.2.2.2.2.2.2.2.2.1,h.2.2.2.2.2.2.2.2.2.2.2.2.2.2,t)
inductive HP (n:Nat):Hd->List m_->List Ed->Nat->Prop
 | mk {own:List Int} {cuts:List Ed} {lab:List (List Int)} {nums:List Int} {said:List Sd} {ss:List m_} {g:List Ed} {c:Nat} {x5 x6 x7 x8 x9 x10 x11:Int} {x12:List Ed} {x13:Int}
   (hp:Pnd n own cuts lab nums said ss g c x5 x6 x7 x8 x9 x10 x11 x12 x13) (hf:said.foldl (t_ n) []=g) (hc:c<=80):HP n ((n:Int),own,cuts,lab,nums,x5,x6,x7,x8,x9,x10,x11,x12,x13,said) ss g c
section
variable {n:Nat} {own:List Int} {cuts:List Ed} {lab:List (List Int)} {nums:List Int} {said:List Sd} {ss:List m_} {g:List Ed} {c:Nat} {x5 x6 x7 x8 x9 x10 x11:Int} {x12:List Ed} {x13:Int}
theorem Ply.up (h:Ply n own cuts lab nums said ss g c):Ply n own cuts lab nums said ss g (c+1):=h.onw ⟨h.sdo.1,by have:=h.sdo.2;omega⟩
theorem Pnd.up (h:Pnd n own cuts lab nums said ss g c x5 x6 x7 x8 x9 x10 x11 x12 x13):Pnd n own cuts lab nums said ss g (c+1) x5 x6 x7 x8 x9 x10 x11 x12 x13:=by
 cases h with
 | idle h=>exact .idle h.up
 | chg h hi hs ho ha hb hab hw=>exact .chg h.up hi hs ho ha hb hab hw
 | rel h hi hs ha hb hw=>exact .rel h.up hi hs ha hb hw
 | acc h hi hs ha hb hes hin hgr hg=>exact .acc h.up hi hs ha hb hes hin hgr hg
theorem Pnd.x12l (h:Pnd n own cuts lab nums said ss g c x5 x6 x7 x8 x9 x10 x11 x12 x13):x12.length<=66:=by
 cases h with
 | idle h=>simp
 | chg h hi hs ho ha hb hab hw=>simp
 | rel h hi hs ha hb hw=>simp
 | acc h hi hs ha hb hes hin hgr hg=>exact FD hes.1
theorem Ply.sz (h:Ply n own cuts lab nums said ss g c) (hc:c<=80) (hx:x12.length<=66):HdS ((n:Int),own,cuts,lab,nums,x5,x6,x7,x8,x9,x10,x11,x12,x13,said):=by
 obtain ⟨k1,k2,k3,k4⟩:=h.k;have hn:=h.n2;have hcl:=FD h.cgr;have hol:=h.owr.1;have hsl:=h.sdo.2;refine ⟨by show own.length<=12;omega,by show cuts.length<=132;omega,⟨by show lab.length<=3;omega,fun y hy => ?_⟩,by show nums.length<=3;omega,by show x12.length<=132;omega,by show said.length<=81;omega⟩;obtain ⟨j,hj,rfl⟩:=List.mem_iff_getElem.1 (show y∈lab from hy);have hjs:j<ss.length:=by omega
 obtain ⟨_,_,_,s4,_⟩:=h.sh j _ _ (aO hjs);rw [bJ,aO hj] at s4;have s4:lab[j]=_:=s4;rw [s4,bV];omega
theorem HP.sz {h:Hd} (hp:HP n h ss g c):HdS h:=by
 cases hp with
 | mk hp hf hc=>
  obtain ⟨g',hP⟩:=hp.ply;exact hP.sz hc hp.x12l
theorem HP.up {h:Hd} (hp:HP n h ss g c) (hc:c<80):HP n h ss g (c+1):=by
 cases hp with
 | mk hp hf _=>exact .mk hp.up hf (by omega)
theorem HP.len {h:Hd} (hp:HP n h ss g c):h.1=n/\(2<=n/\n<=12)/\(1<=ss.length/\ss.length<=3)/\h.2.2.2.1.length=ss.length/\GrOk n g/\(bX h).foldl (t_ n) []=g/\(bX h).length<=c/\c<=80:=by
 cases hp with
 | mk hp hf hc=>
  obtain ⟨g',hP⟩:=hp.ply;have hk:=hP.k;refine ⟨rfl,hP.n2,⟨hk.1,hk.2.1⟩,hk.2.2.1,?_,hf,hP.sdo.2,hc⟩;cases hp with
  | idle h=>exact h.gr
  | chg h=>exact h.gr
  | rel h=>exact h.gr
  | acc h hi hs ha hb hes hin hgr hg=>exact hgr
theorem HP.ok {h:Hd} (hp:HP n h ss g c):kX h=some (true,())/\wE h=some (true,()):=by
 have hs:=hp.sz;cases hp with
 | mk hp hf hc=>
  obtain ⟨b1,b2,b3,b4,b5,b6⟩:=hs.bd;have:=hp.hd hc;exact ⟨(Nj _ _ _ _ _ _ _ _ _ _ _ _ _ _ _ b1 b2 b3 b5 b6).trans (by rw [this]),(Nk _ _ _ _ _ _ _ _ _ _ _ _ _ _ _ b1 b2 b3 b5 b6).trans (by rw [this])⟩
theorem ack {op a b v i:Int} {g':List Ed} (hf:said.foldl (t_ n) []=g) (h:Rpl n g op a b v g'):(said++[(i,i,op,a,b,v)]).foldl (t_ n) []=g':=by
 rw [List.foldl_append,hf];exact h.1.symm
theorem HP.take {h:Hd} (hp:HP n h ss g c) (hc:c<80) (i op a b:Int):∃(h':Hd) (told:Int) (g':List Ed),tkU h i op a b=NA h' told/\HP n h' ss g' (c+1) /\
  ((told=0/\h'=h/\g'=g)\/sA (bX h) i<0/\shO h=0/\((told=1/\shO h'=0/\∃v,bX h'=bX h++[(i,i,op,a,b,v)]/\Rpl n g op a b v g')\/(told=2/\shO h'≠0/\bX h'=bX h/\g'=g/\qO h'=(i,op,a,b)))):=by
 have hup:=hp.up hc;cases hp with
 | @mk own cuts lab nums said _ _ _ x5 x6 x7 x8 x9 x10 x11 x12 x13 hp hf hc'=>
  show ∃(h':Hd) (told:Int) (g':List Ed),Yw (n:Int) own cuts lab nums x5 x6 x7 x8 x9 x10 x11 x12 x13 said i op a b=_/\_;unfold Yw;by_cases hok:xg (n:Int) own cuts lab nums x5 x6 x7 x8 x9 x10 x11 x12 x13 said i=true
  ·rw [if_pos hok];obtain ⟨_,z5,_,_,_,z9,_⟩:=Wv hok;unfold xg at hok;simp only [aP,decide_eq_true_eq,Bool.not_eq_true',decide_eq_false_iff_not] at hok;obtain ⟨_,hi,hsa,_,_⟩:=hok;have hP:Ply n own cuts lab nums said ss g c:=by
    cases hp with
    | idle h=>exact h
    | chg h hi'=>rw [z5] at hi';exact absurd hi' (by decide)
    | rel h hi'=>rw [z5] at hi';exact absurd hi' (by decide)
    | acc h hi'=>rw [z5] at hi';exact absurd hi' (by decide)
   obtain ⟨cuts',t5,t6,t7,t8,t9,t10,t11,t12,t13,said',told,g',e1,e2,e3⟩:=akV (op:=op) (a:=a) (b:=b) hP hi (by omega);rw [e1];refine ⟨((n:Int),own,cuts',lab,nums,t5,t6,t7,t8,t9,t10,t11,t12,t13,said'),told,g',rfl,.mk e2 ?_ (by omega),.inr ⟨by show sA said i<0;omega,z9,?_⟩⟩
   ·rcases e3 with ⟨_,_,v,rfl,hr⟩|⟨_,_,rfl,rfl,_⟩
    ·exact ack hf hr
    ·exact hf
   ·rcases e3 with ⟨r1,r2,v,r3,hr⟩|⟨r1,r2,r3,r4,r5,r6,r7,r8⟩
    ·exact .inl ⟨r1,r2,v,r3,hr⟩
    ·exact .inr ⟨r1,r2,r3,r4,by show (t5,t6,t7,t8)=_;rw [r5,r6,r7,r8]⟩
  ·rw [if_neg hok];exact ⟨_,0,g,rfl,hup,.inl ⟨rfl,rfl,rfl⟩⟩
theorem HP.hear {h:Hd} (hp:HP n h ss g c) (hb:shO h≠0) (hc:c<80):∃(L:List az) (y:An) (L':List az) (z:An) (h':Hd) (told:Int) (g':List Ed),(1<=shO h/\shO h<=ss.length)/\ss[(shO h-1).toNat]?=some (L,y)/\ShR (shO h) n L y/\(P7 h).2.2.1.length<=66 /\
  qI ((shO h,(n:Int),L,y),P7 h)=some (iQ (shO h) n L' z,())/\lL ((shO h,(n:Int),L,y),P7 h)=some (iQ (shO h) n L' z,())/\ShR (shO h) n L' z/\mX n (P7 h)=true/\lq n z=true /\
  heU h (shO h) z=NA h' told/\HP n h' (ss.set (shO h-1).toNat (L',z)) g' (c+1) /\
  ((told=1/\shO h'=0/\∃v,bX h'=bX h++[((qO h).1,(qO h).1,(qO h).2.1,(qO h).2.2.1,(qO h).2.2.2,v)]/\Rpl n g (qO h).2.1 (qO h).2.2.1 (qO h).2.2.2 v g')\/(told=2/\shO h'≠0/\bX h'=bX h/\g'=g/\qO h'=qO h/\(P7 h).2.1=3/\(P7 h').2.1=4)):=by
 cases hp with
 | @mk own cuts lab nums said _ _ _ x5 x6 x7 x8 x9 x10 x11 x12 x13 hp hf hc'=>
  have hb:x9≠0:=hb;obtain ⟨r1,L,y,r2,r3,r4,r5⟩:=hp.ord hb hc';obtain ⟨g0,hP⟩:=hp.ply;obtain ⟨hR0,hy⟩:=hP.sh _ _ _ r2;have hsc:(((x9-1).toNat:Nat):Int)+1=x9:=by omega
  rw [hsc] at hR0;have hl66:=hp.x12l;rcases ahY hR0 (x10,x11,x12,x13) (by simp only;omega) with ⟨_,_,q|q⟩|⟨_,_,_,q⟩|⟨_,_,L',z,o1,o2,hR,hD⟩
  ·rw [r3] at q;cases q
  ·exact absurd r4 q.2
  ·have q:x10=y.1:=q;omega
  obtain ⟨own',cuts',t5,t6,t7,t8,t9,t10,t11,t12,t13,said',told,g',e1,e2,e3⟩:=akX hp hb r1.1 r2 r4 hR hD;have hz1:z.1=x10:=hD.num;have hza:lq n z=true:=by
   rcases hR.an with hbl|⟨ha,_⟩
   ·unfold UM at hbl;simp only [aP,decide_eq_true_eq] at hbl;have:=hR0.len.2.2.2.1;omega
   ·exact ha
  have hok:A8 (n:Int) own cuts lab nums x5 x6 x7 x8 x9 x10 x11 x12 x13 said x9 z=true:=by
   unfold A8;rw [hp.hd hc',hza,au hb,ai rfl,ai hz1];rfl
  have he:heU ((n:Int),own,cuts,lab,nums,x5,x6,x7,x8,x9,x10,x11,x12,x13,said) x9 z=NA ((n:Int),own',cuts',lab.set (x9-1).toNat z.2.2.2,nums.set (x9-1).toNat z.1,t5,t6,t7,t8,t9,t10,t11,t12,t13,said') told:=by
   show heR (n:Int) own cuts lab nums x5 x6 x7 x8 x9 x10 x11 x12 x13 said x9 z=_;unfold heR;rw [if_pos hok,e1]
  refine ⟨L,y,L',z,_,told,g',r1,r2,hR0,hl66,o1,o2,hR,r3,hza,he,.mk e2 ?_ (by omega),?_⟩
  ·rcases e3 with ⟨_,_,v,rfl,hr⟩|⟨_,_,rfl,rfl,_⟩
   ·exact ack hf hr
   ·exact hf
  ·rcases e3 with ⟨s1,s2,v,s3,hr⟩|⟨s1,s2,s3,s4,s5,s6,s7,s8,s9,s10⟩
   ·exact .inl ⟨s1,s2,v,s3,hr⟩
   ·exact .inr ⟨s1,s2,s3,s4,by show (t5,t6,t7,t8)=(x5,x6,x7,x8);rw [s5,s6,s7,s8],s9,s10⟩
end
theorem akY {n k:Nat} (hk:1<=k) (v:Int) (hv:0<=v/\v<n):1<=(Nh n k).getD v.toNat 0/\(Nh n k).getD v.toNat 0<=k:=by
 rw [gD (aoe (k:=k) (show v.toNat<n by omega))];have:=Nat.mod_lt v.toNat (show k > 0 from by omega);omega
theorem HP.new {n k:Nat} (h2:2<=n) (h12:n<=12) (h1:1<=k) (h3:k<=3):HP n (hdN n k) (List.replicate k ([],(0,false,[],[]))) [] 0:=by
 refine .mk (.idle ⟨⟨h2,h12⟩,by simp only [List.length_replicate];exact ⟨h1,h3,trivial,trivial⟩,⟨al_ n k,fun v hv=>by rw [List.length_replicate];exact akY h1 v hv⟩,acj ⟨h2,h12⟩,fun e he=>(by cases he),fun j L y hj => ?_,acj ⟨h2,h12⟩,fun e => ?_,⟨fun j hj=>absurd hj (by simp),by simp⟩⟩) rfl (by omega)
 ·have hjl:=(aS hj).1;rw [List.length_replicate] at hjl;have:=List.mem_of_getElem? hj;rw [List.mem_replicate] at this;cases this.2;refine ⟨aqd (by omega) (by omega) h12,?_,by simp,?_,fun e he=>by cases he⟩
  ·rw [bJ,List.getElem?_replicate,if_pos hjl];rfl
  ·rw [bJ,List.getElem?_replicate,if_pos hjl];rfl
 ·constructor
  ·intro h;cases h
  ·rintro (h|⟨j,L,y,hj,he⟩)
   ·cases h
   ·have:=List.mem_of_getElem? hj;rw [List.mem_replicate] at this;cases this.2;cases he
theorem YA (c:Fv) (hc:jF c) (n k i:Int) (hn:n<=1000000) (hk:k<=1000000):∃op a b c',BI (c,n,k,i)=some ((i,op,a,b),c')/\jF c':=by
 show ∃op a b c',LH BIG _=_/\_;rw [ajJ];obtain ⟨r0,c0,k0,o0⟩:=oQ c [1,1,1,1,2,2,3,3,4] hc (by simp) (by simp);obtain ⟨r1,c1,k1,o1,_⟩:=jk c0 n o0 hn;obtain ⟨r2,c2,k2,o2,_⟩:=jk c1 n o1 hn;rw [k0,ae];simp only;rw [k1,ae];simp only;rw [k2,ae];simp only;have hx:∃c3 op a b,(bif decide (r0=(4:Int)) then Option.bind (fF (c2,k)) fun r3=>some (r3.2,(i,r0,r1,IntKind.wrap .i64 ((1:Int)+r3.1))) else some (c2,(i,r0,r1,r2)):Option (Fv × (Int × Int × Int × Int)))=some (c3,(i,op,a,b))/\jF c3:=by
  by_cases h:r0=4
  ·obtain ⟨r3,c3,k3,o3,_⟩:=jk c2 k o2 hk;rw [ai h,ah,k3,ae];exact ⟨_,_,_,_,rfl,o3⟩
  ·rw [au h,aj];exact ⟨_,_,_,_,rfl,o2⟩
 obtain ⟨c3,op,a',b',hx,o3⟩:=hx;rw [hx,ae];simp only;obtain ⟨r5,c5,k5,o5,_⟩:=jk c3 30 o3 (by omega);rw [k5,ae];simp only;by_cases h0:r5=0
 ·obtain ⟨r6,c6,k6,o6⟩:=oQ c5 [-1,n,11,12] o5 (by simp) (by simp);rw [ai h0,ah,k6,ae,ae];exact ⟨_,_,_,_,rfl,o6⟩
 rw [au h0,aj];by_cases h1:r5=1
 ·obtain ⟨r6,c6,k6,o6⟩:=oQ c5 [-1,0,n,12] o5 (by simp) (by simp);rw [ai h1,ah,k6,ae,ae];exact ⟨_,_,_,_,rfl,o6⟩
 rw [au h1,aj];by_cases h2:r5=2
 ·obtain ⟨r6,c6,k6,o6⟩:=oQ c5 [0,5] o5 (by simp) (by simp);rw [ai h2,ah,k6,ae,ae];exact ⟨_,_,_,_,rfl,o6⟩
 ·rw [au h2,aj,ae];exact ⟨_,_,_,_,rfl,o5⟩
abbrev wL:=Int × Int × List az × An
def SLR (n:Nat) (S:List wL) (ss:List m_):Prop:=S.length=ss.length/\∀(j:Nat) (L:List az) (y:An),ss[j]?=some (L,y)->S[j]?=some ((j:Int)+1,(n:Int),L,y)
theorem SLR.at {n:Nat} {S:List wL} {ss:List m_} (h:SLR n S ss) {s:Int} (h1:1<=s) {L:List az} {y:An} (hs:ss[(s-1).toNat]?=some (L,y)):(s-1).toNat<S.length/\S[(s-1).toNat]?=some (s,(n:Int),L,y):=by
 have:=(aS hs).1;have h2:=h.2 _ _ _ hs;rw [show (((s-1).toNat:Nat):Int)+1=s from by omega] at h2;exact ⟨by have:=h.1;omega,h2⟩
theorem SLR.set {n:Nat} {S:List wL} {ss:List m_} (h:SLR n S ss) {s:Int} (h1:1<=s) (L:List az) (y:An):SLR n (S.set (s-1).toNat (s,(n:Int),L,y)) (ss.set (s-1).toNat (L,y)):=by
 refine ⟨by rw [jH,jH];exact h.1,fun j M w hj => ?_⟩;rw [List.getElem?_set] at hj ⊢;by_cases hjs:(s-1).toNat=j
 ·rw [if_pos hjs] at hj ⊢;by_cases hl:(s-1).toNat<ss.length
  ·rw [if_pos hl] at hj;cases hj;rw [if_pos (by have:=h.1;omega),show (j:Int)+1=s from by omega]
  ·rw [if_neg hl] at hj;cases hj
 ·rw [if_neg hjs] at hj ⊢;exact h.2 j M w hj
abbrev RZ:=Int × List Int × List (Int × Int) × List (List Int) × List Int × Int × Int × Int × Int × Int × Int × Int × List (Int × Int) × Int × List (Int × Int × Int × Int × Int × Int) × List wL
abbrev FE (h:Hd) (S:List wL):RZ:=(h.1,h.2.1,h.2.2.1,h.2.2.2.1,h.2.2.2.2.1,h.2.2.2.2.2.1,h.2.2.2.2.2.2.1,h.2.2.2.2.2.2.2.1,h.2.2.2.2.2.2.2.2.1,h.2.2.2.2.2.2.2.2.2.1,h.2.2.2.2.2.2.2.2.2.2.1,h.2.2.2.2.2.2.2.2.2.2.2.1,h.2.2.2.2.2.2.2.2.2.2.2.2.1,h.2.2.2.2.2.2.2.2.2.2.2.2.2.1,h.2.2.2.2.2.2.2.2.2.2.2.2.2.2,S)
theorem afB (h:Hd):qB h=some (!decide (shO h=0),()):=Wq _ _ _ _ _ _ _ _ _ _ _ _ _ _ _
theorem afC (h:Hd):qG h=some (!decide (shO h=0),()):=Wp _ _ _ _ _ _ _ _ _ _ _ _ _ _ _
abbrev flH (h:Hd) (b:Bool):Int × List Int × List (Int × Int) × List (List Int) × List Int × Int × Int × Int × Int × Int × Int × Int × List (Int × Int) × Int × List (Int × Int × Int × Int × Int × Int) × Bool:=(h.1,h.2.1,h.2.2.1,h.2.2.2.1,h.2.2.2.2.1,h.2.2.2.2.2.1,h.2.2.2.2.2.2.1,h.2.2.2.2.2.2.2.1,h.2.2.2.2.2.2.2.2.1,h.2.2.2.2.2.2.2.2.2.1,h.2.2.2.2.2.2.2.2.2.2.1,h.2.2.2.2.2.2.2.2.2.2.2.1,h.2.2.2.2.2.2.2.2.2.2.2.2.1,h.2.2.2.2.2.2.2.2.2.2.2.2.2.1,h.2.2.2.2.2.2.2.2.2.2.2.2.2.2,b)
theorem ah1 {N K:Nat} (n1:1<=N) (n2:N<=12) (k1:1<=K) (k2:K<=3):Ga ((N:Int),(K:Int))=some (flH (hdN N K) true,()):=by
 have hm:maxLen=9223372036854775807:=by decide
 show F_ BIG _=_;rw [agp,bI,bI,aQ.2 (by omega),aQ.2 (by omega)];simp only [aZ,aj,ae];have g1:∀(s0:Hd),s0.2.1=[]->∀F:(Hd × Int->Option Hd)->Hd × Int->Option Hd,
   (∀self (s:Hd) (i:Nat),i<N->s.2.1.length=i->F self (s,(i:Int))=self ((s.1,s.2.1++[1+Int.tmod (i:Int) K],s.2.2),((i+1:Nat):Int)))->(∀self s,F self (s,(N:Int))=some s) ->
   aI BIG F (s0,0)=some (s0.1,Nh N K,s0.2.2):=by
  intro s0 h0 F hF hE;rw [rangeLoop N (by omega) (fun i (s:Hd)=>s.2.1.length=i) (fun i s=>(s.1,s.2.1++[1+Int.tmod (i:Int) K],s.2.2)) id (by rw [h0];rfl) (fun i s _ h=>by simp [h]) (fun self s i hi h=>hF self s i hi h) (fun self s _=>hE self s),al6,h0];rfl
 rw [ai (by omega),ah,ai (by omega),ah,g1 _ rfl]
 ·rw [ae,rangeLoop K (by omega) (fun i (s:Hd)=>s.2.2.2.1.length=i) (fun _ s=>(s.1,s.2.1,s.2.2.1,s.2.2.2.1++[qb N],s.2.2.2.2)) id rfl (fun i s _ h=>by simp [h])]
  ·rw [al7];rfl
  ·intro self s i hi hs1;simp only [show ((i:Int)<(K:Int)) from by omega,decide_true,ah];rw [AY N [] (by omega) (fun e he=>by cases he) (by simp),ae,ai (by simp;omega),ah,bE (by omega)];rfl
  ·intro self s _;simp
 ·intro self s i hi hs;have:=apZ (i:=i) (k:=K) (by omega) (by omega);simp only [show ((i:Int)<(N:Int)) from by omega,decide_true,ah];rw [au (by omega),aj,wr (by omega) (by omega),ai (by simp;omega),ah,bE (by omega)]
 ·intro self s;simp
theorem acl (c:Fv) (hc:jF c) (a:List Int) (ha:a.length<=1048576):∃(n:Nat) (h:Hd) (S:List wL) (ss:List m_) (g:List Ed) (k:Nat) (c':Fv),zY (c,a)=some (FE h S,c')/\jF c'/\SLR n S ss/\HP n h ss g k/\k<=60:=by
 have hm:maxLen=9223372036854775807:=by decide
 show ∃n h S ss g k c',zX BIG _=_/\_;rw [aa9];obtain ⟨n0,c0,k0,o0,hn2,hn12⟩:=an9 c hc;obtain ⟨n,rfl⟩:∃n:Nat,n0=(n:Int):=⟨n0.toNat,by omega⟩
 obtain ⟨r1,c1,k1,o1,a1,b1,_⟩:=jk c0 3 o0 (by omega);have b1:=b1 (by omega);obtain ⟨K,hK⟩:∃K:Nat,1+r1=(K:Int):=⟨(1+r1).toNat,by omega⟩
 rw [k0,ae];simp only;rw [k1,ae];simp only;rw [wr (n:=1+r1) (by omega) (by omega),hK];rw [ah1 (by omega) (by omega) (by omega) (by omega),ae];simp only [flH];have hP0:=HP.new (n:=n) (k:=K) (by omega) (by omega) (by omega) (by omega);generalize hdN n K=h0 at hP0 ⊢;refine bW (P:=fun o=>∃(n:Nat) (h:Hd) (S:List wL) (ss:List m_) (g:List Ed) (k:Nat) (c':Fv),o=some (FE h S,c')/\jF c'/\SLR n S ss/\HP n h ss g k/\k<=60)
  (fun (s:RZ × Int)=>∃(i:Nat) (S:List wL),s.2=(i:Int)/\1<=i/\i<=K+1/\s.1=FE h0 S/\S.length+1=i/\∀j,j<S.length->S[j]?=some ((j:Int)+1,(n:Int),[],(0,false,[],[]))) (fun s=>8-s.2.toNat)
  (fun _ (b:RZ)=>∃S:List wL,b=FE h0 S/\S.length=K/\∀j,j<S.length->S[j]?=some ((j:Int)+1,(n:Int),[],(0,false,[],[]))) (by simp [BIG]) ⟨1,[],rfl,by omega,by omega,rfl,rfl,fun j hj=>absurd hj (by simp)⟩ (fun self s hx hs => ?_) (fun b hb => ?_)
 ·obtain ⟨T,j⟩:=s;obtain ⟨i,S,h1,hi1,hi,hT,hl,hS⟩:=hx;simp only at h1 hT hs ⊢;subst h1 hT;by_cases hik:i<=K
  ·rw [ai (by omega),ah,adD,if_pos (by rw [aQ.2 (by omega),aQ.2 (by omega)];rfl),ae];simp only [FE];rw [ai (by simp only [bA,List.length_nil];omega),ah,bE (by omega)];refine hs _ ⟨i+1,S++[((i:Int),(n:Int),[],(0,false,[],[]))],rfl,by omega,by omega,rfl,by simp only [bZ,bA,List.length_nil];omega,fun j hj => ?_⟩ (by simp;omega);rw [bZ,bA,List.length_nil] at hj;by_cases hjl:j<S.length
   ·rw [List.getElem?_append_left hjl];exact hS j hjl
   ·rw [List.getElem?_append_right (by omega),show j-S.length=0 by omega,show (j:Int)+1=(i:Int) by omega];rfl
  ·rw [au (by omega),aj];exact ⟨_,rfl,S,rfl,by omega,hS⟩
 ·obtain ⟨S0,rfl,hS1,hS2⟩:=hb;have hSL0:SLR n S0 (List.replicate K ([],(0,false,[],[]))):=by
   refine ⟨by rw [List.length_replicate];exact hS1,fun j L y hj => ?_⟩;have hjl:=(aS hj).1;rw [List.length_replicate] at hjl;have:=List.mem_of_getElem? hj;rw [List.mem_replicate] at this;cases this.2;exact hS2 j (by omega)
  obtain ⟨v,s1,s2,s3⟩:=ah0 a ha;refine bW (P:=fun o=>∃(n:Nat) (h:Hd) (S:List wL) (ss:List m_) (g:List Ed) (k:Nat) (c':Fv),o=some (FE h S,c')/\jF c'/\SLR n S ss/\HP n h ss g k/\k<=60)
   (fun (s:Fv × RZ × Int)=>∃(i:Nat) (h:Hd) (S:List wL) (ss:List m_) (g:List Ed),s.2.2=(i:Int)/\i<=60/\jF s.1/\s.2.1=FE h S/\SLR n S ss/\HP n h ss g i) (fun s=>60-s.2.2.toNat)
   (fun _ (b:Fv × RZ)=>∃(h:Hd) (S:List wL) (ss:List m_) (g:List Ed) (i:Nat),jF b.1/\b.2=FE h S/\SLR n S ss/\HP n h ss g i/\i<=60) (by simp [BIG]) ⟨0,h0,S0,_,_,rfl,by omega,o1,rfl,hSL0,hP0⟩ (fun self s hx hs => ?_) (fun b hb => ?_)
  ·obtain ⟨cu,T,j⟩:=s;obtain ⟨i,h,S,ss,g,h1,hi,hcu,hT,hSL,hP⟩:=hx;simp only at h1 hcu hT hs ⊢;subst h1 hT;obtain ⟨r6,c6,k6,o6,a6,b6,b6'⟩:=jk cu v hcu (by omega);rw [s1,ae];simp only;rw [k6,ae];simp only;by_cases hiv:(i:Int)<r6;case neg=>
    rw [au hiv,aj];exact ⟨_,rfl,h,S,ss,g,i,o6,rfl,hSL,hP,hi⟩
   have hi60:i<60:=by
    by_cases h:0<v
    ·have:=b6 h;omega
    ·have:=b6' (by omega);omega
   rw [ai hiv,ah];have hz:=hP.sz;have hlen:=hP.len;simp only [FE];rw [afB h,ae];by_cases hb:shO h=0
   ·rw [ai hb];simp only [aZ,aj];rw [bE (by omega)];obtain ⟨op,a',b',c7,k7,o7⟩:=YA c6 o6 (n:Int) (K:Int) ((i+1:Nat):Int) (by omega) (by omega);rw [k7,ae];simp only;rw [afp hz,ae];obtain ⟨h',told,g',e1,e2,_⟩:=hP.take (by omega) ((i+1:Nat):Int) op a' b';rw [e1];exact hs _ ⟨i+1,h',S,ss,g',rfl,by omega,o7,rfl,hSL,e2⟩ (by simp;omega)
   ·rw [au hb];simp only [dM,ah];obtain ⟨L,y,L',z,h',told,g',q1,q2,q3,q4,q5,q6,q7,q8,q9,q10,YB,_⟩:=hP.hear hb (by omega);obtain ⟨p1,p2⟩:=hSL.at q1.1 q2;have hzl:=q7.len;have q6':lL ((shO h,(n:Int),L,y),(h.2.2.2.2.2.2.2.2.2.2.1,h.2.2.2.2.2.2.2.2.2.2.2.1,h.2.2.2.2.2.2.2.2.2.2.2.2.1,h.2.2.2.2.2.2.2.2.2.2.2.2.2.1))=some (iQ (shO h) n L' z,()):=q6;have hw1:IntKind.wrap .i64 (h.2.2.2.2.2.2.2.2.2.1-1)=shO h-1:=wr (n:=shO h-1) (by omega) (by omega);rw [hw1,bn (by omega) (by omega),p2,ae,q6',ae];have hacc0:(iQ (shO h) (n:Int) L' z).2.2.2.2.2.2.2.2.2.2.2=0:=rfl;simp only [hacc0,decide_true,ah];rw [bn (by omega) (by omega),p2,ae,wr (n:=shO h-1+1) (by omega) (by omega),show shO h-1+1=shO h by omega];have hh:uG (h,shO h,((iQ (shO h) (n:Int) L' z).2.2.2.2.2.2.2.1,(iQ (shO h) (n:Int) L' z).2.2.2.2.2.2.2.2.1,(iQ (shO h) (n:Int) L' z).2.2.2.2.2.2.2.2.2.1,(iQ (shO h) (n:Int) L' z).2.2.2.2.2.2.2.2.2.2.1))=some (NA h' told,()):=(afq hz (shO h) z (by omega) (by omega)).trans (by rw [q10]);rw [hh,ae,ae,ae];simp only;rw [bE (by omega)];exact hs _ ⟨i+1,h',S.set (shO h-1).toNat (shO h,(n:Int),L',z),ss.set (shO h-1).toNat (L',z),g',rfl,by omega,o6,rfl,hSL.set q1.1 L' z,YB⟩ (by simp;omega)
  ·obtain ⟨h,S,ss,g,i,hb1,hb2,hb3,hb4,hb5⟩:=hb;exact ⟨n,h,S,ss,g,i,b.1,by rw [hb2],hb1,hb3,hb4,hb5⟩
theorem aqf (n:Int) (es:List Ed) (o a b:Int):(lG n es o a b).1=n/\(lG n es o a b).2.1.length<=es.length+1:=by
 have key:∀r:Int × List Ed × Bool,(r.2.2=true->r.1=n/\r.2.1.length<=es.length+1)->(if r.2.2=true then (r.1,r.2.1,(1:Int)) else (n,es,2)).1=n/\(if r.2.2=true then (r.1,r.2.1,(1:Int)) else (n,es,2)).2.1.length<=es.length+1:=by
  intro r hr;by_cases h:r.2.2=true
  ·rw [if_pos h];exact hr h
  ·rw [if_neg h];exact ⟨rfl,by simp only;omega⟩
 unfold lG;split
 ·split
  ·exact ⟨rfl,by simp only;omega⟩
  ·split
   ·split
    ·exact ⟨rfl,by simp only;omega⟩
    ·refine key _ fun hr => ?_
     by_cases h2:o=2
     ·rw [if_pos h2] at hr ⊢;unfold Ni at hr ⊢;by_cases hc:(fD n es&&decide (dC a b∈es))=true
      ·rw [if_pos hc];exact ⟨rfl,by have:=UQ es (dC a b);simp only;omega⟩
      ·rw [if_neg hc] at hr;cases hr
     ·rw [if_neg h2] at hr ⊢;unfold AZ at hr ⊢;by_cases hc:(fD n es&&(df n (dC a b) && !decide (dC a b∈es)))=true
      ·rw [if_pos hc];exact ⟨rfl,by have:=UR es (dC a b);simp only;omega⟩
      ·rw [if_neg hc] at hr;cases hr
   ·exact ⟨rfl,by simp only;omega⟩
 ·exact ⟨rfl,by simp only;omega⟩
theorem ah2 (h:Hd) (k:Int) (hl:(bX h).length<=1048576):tC (h,k)=(if decide (sA (bX h) k<0)=true then some ((0,false),()) else bnd (bX h).length (sA (bX h) k) fun n1=>Option.bind (bX h)[n1]? fun y2=>some ((y2.2.2.2.2.2,true),())):=ahL _ _ _ _ _ _ _ _ _ _ _ _ _ _ _ k hl
theorem aqL {h:Hd} {i op a b:Int} (hs:0<=sA (bX h) i):tkU h i op a b=NA h 0:=by
 unfold tkU Yw;rw [if_neg];intro hok;unfold xg at hok;simp only [aP,Bool.not_eq_true',decide_eq_false_iff_not] at hok;exact hok.2.2.1 hs
theorem adM (a:List Sd) (h:a.length<=1048576):vM (a,a)=some (true,()):=by
 have hm:maxLen=9223372036854775807:=by decide
 show Ev BIG _=_;rw [adB,ai (rfl:(a.length:Int)=a.length)];simp only [aZ,aj];refine bW (P:=fun o=>o=some (true,())) (fun (j:Int)=>∃i:Nat,j=(i:Int)/\i<=a.length) (fun j=>a.length-j.toNat) (fun _ b=>b=Sum.inl ()) (by simp only [BIG];omega) ⟨0,rfl,by omega⟩ (fun self s hx hs => ?_) (fun b hb=>by rw [hb]);obtain ⟨i,rfl,hi⟩:=hx;by_cases hl:i<a.length
 ·rw [ai (by omega),ah,aB hl,aO hl];simp only [ae,aB hl,aO hl,decide_true,Bool.and_self,aZ,aj];rw [bE (by omega)];exact hs _ ⟨i+1,rfl,by omega⟩ (by omega)
 ·rw [au (by omega),aj];exact ⟨_,rfl,rfl⟩
theorem R3 (a:List Int) (ha:a.length<=1048576):∃(n:Nat) (h:Hd) (S:List wL) (ss:List m_) (g:List Ed) (k:Nat) (op a' b':Int),
  pU a=some ((h.1,h.2.1,h.2.2.1,h.2.2.2.1,h.2.2.2.2.1,h.2.2.2.2.2.1,h.2.2.2.2.2.2.1,h.2.2.2.2.2.2.2.1,h.2.2.2.2.2.2.2.2.1,h.2.2.2.2.2.2.2.2.2.1,h.2.2.2.2.2.2.2.2.2.2.1,h.2.2.2.2.2.2.2.2.2.2.2.1,h.2.2.2.2.2.2.2.2.2.2.2.2.1,h.2.2.2.2.2.2.2.2.2.2.2.2.2.1,h.2.2.2.2.2.2.2.2.2.2.2.2.2.2,S,((200:Int),op,a',b')),())/\SLR n S ss/\HP n h ss g k/\k<=66/\shO h=0:=by
 have hm:maxLen=9223372036854775807:=by decide
 show ∃n h S ss g k op a' b',pR BIG _=_/\_;rw [QU];obtain ⟨c,k0,hc⟩:=akg a ha;obtain ⟨n,h,S,ss,g,k,c1,k1,o1,hSL,hP,hk⟩:=acl c hc a ha;rw [k0,ae];simp only;rw [k1,ae];simp only;refine bW (P:=fun o=>∃(n:Nat) (h:Hd) (S:List wL) (ss:List m_) (g:List Ed) (k:Nat) (op a' b':Int),o=some ((h.1,h.2.1,h.2.2.1,h.2.2.2.1,h.2.2.2.2.1,h.2.2.2.2.2.1,h.2.2.2.2.2.2.1,h.2.2.2.2.2.2.2.1,h.2.2.2.2.2.2.2.2.1,h.2.2.2.2.2.2.2.2.2.1,h.2.2.2.2.2.2.2.2.2.2.1,h.2.2.2.2.2.2.2.2.2.2.2.1,h.2.2.2.2.2.2.2.2.2.2.2.2.1,h.2.2.2.2.2.2.2.2.2.2.2.2.2.1,h.2.2.2.2.2.2.2.2.2.2.2.2.2.2,S,((200:Int),op,a',b')),())/\SLR n S ss/\HP n h ss g k/\k<=66/\shO h=0)
  (fun (s:RZ × Int)=>∃(i:Nat) (h:Hd) (S:List wL) (ss:List m_) (g:List Ed),s.2=(i:Int)/\s.1=FE h S/\SLR n S ss/\HP n h ss g (k+i)/\(shO h=0/\i<=4\/i=0\/i=1/\(P7 h).2.1=4)) (fun s=>4-s.2.toNat)
  (fun _ (b:RZ)=>∃(i:Nat) (h:Hd) (S:List wL) (ss:List m_) (g:List Ed),b=FE h S/\SLR n S ss/\HP n h ss g (k+i)/\i<=4/\shO h=0) (by simp [BIG]) ⟨0,h,S,ss,g,rfl,rfl,hSL,hP,.inr (.inl rfl)⟩ (fun self s hx hs => ?_) (fun b hb => ?_)
 ·obtain ⟨T,j⟩:=s;obtain ⟨i,h,S,ss,g,h1,hT,hSL,hP,hst⟩:=hx;simp only at h1 hT hs ⊢;subst h1 hT;have hz:=hP.sz;have hlen:=hP.len;simp only [FE];have hbz:(bif decide ((i:Int)<(4:Int)) then Option.bind (qB h) fun r4=>some r4.1 else some false:Option Bool)=some (!decide (shO h=0)&&decide (i<4)):=by
   by_cases h4:i<4
   ·rw [ai (by omega),ah,afB,ae,ai h4,Bool.and_true]
   ·rw [au (by omega),aj,au h4,Bool.and_false]
  rw [hbz,ae];by_cases hb:shO h=0
  ·rw [ai hb];simp only [aZ,Bool.false_and,aj];exact ⟨_,rfl,i,h,S,ss,g,rfl,hSL,hP,by omega,hb⟩
  ·have hi:i=0\/i=1/\(P7 h).2.1=4:=by
    rcases hst with hst|hst
    ·exact absurd hst.1 hb
    ·exact hst
   rw [au hb,ai (show i<4 by omega)];simp only [dM,Bool.and_self,ah];obtain ⟨L,y,L',z,h',told,g',q1,q2,q3,q4,q5,q6,q7,q8,q9,q10,YB,q12⟩:=hP.hear hb (by omega);obtain ⟨p1,p2⟩:=hSL.at q1.1 q2;have hzl:=q7.len;have q6':lL ((shO h,(n:Int),L,y),(h.2.2.2.2.2.2.2.2.2.2.1,h.2.2.2.2.2.2.2.2.2.2.2.1,h.2.2.2.2.2.2.2.2.2.2.2.2.1,h.2.2.2.2.2.2.2.2.2.2.2.2.2.1))=some (iQ (shO h) n L' z,()):=q6;have hw1:IntKind.wrap .i64 (h.2.2.2.2.2.2.2.2.2.1-1)=shO h-1:=wr (n:=shO h-1) (by omega) (by omega);rw [hw1,bn (by omega) (by omega),p2,ae,q6',ae,bn (by omega) (by omega),p2,ae,wr (n:=shO h-1+1) (by omega) (by omega),show shO h-1+1=shO h by omega];have hh:uG (h,shO h,((iQ (shO h) (n:Int) L' z).2.2.2.2.2.2.2.1,(iQ (shO h) (n:Int) L' z).2.2.2.2.2.2.2.2.1,(iQ (shO h) (n:Int) L' z).2.2.2.2.2.2.2.2.2.1,(iQ (shO h) (n:Int) L' z).2.2.2.2.2.2.2.2.2.2.1))=some (NA h' told,()):=(afq hz (shO h) z (by omega) (by omega)).trans (by rw [q10]);rw [hh,ae,bE (by omega)];refine hs _ ⟨i+1,h',S.set (shO h-1).toNat (shO h,(n:Int),L',z),ss.set (shO h-1).toNat (L',z),g',rfl,rfl,hSL.set q1.1 L' z,YB,?_⟩ (by simp;omega);rcases q12 with ⟨_,r2,_⟩|⟨_,_,_,_,_,r6,r7⟩
   ·exact .inl ⟨r2,by omega⟩
   ·refine .inr (.inr ⟨?_,r7⟩);rcases hi with rfl|⟨_,hi⟩
    ·rfl
    ·rw [hi] at r6;omega
 ·obtain ⟨i,h,S,ss,g,hb1,hb2,hb3,hb4,hb5⟩:=hb;have hlen:=hb3.len;have hSl:S.length=ss.length:=hb2.1;subst hb1;simp only [FE];obtain ⟨op,a',b',c7,k7,o7⟩:=YA c1 o1 h.1 (S.length:Int) 200 (by omega) (by omega);rw [k7,ae];exact ⟨n,h,S,ss,g,k+i,op,a',b',rfl,hb2,hb3,by omega,hb5⟩
def Ask (told:Int) (h0:Hd) (n:Nat) (g0:List Ed) (q:Int × Int × Int × Int) (i:Nat) (h:Hd) (g:List Ed):Prop:=
 (told=0/\shO h=0/\bX h=bX h0) \/
 (told≠0/\sA (bX h0) q.1<0/\((shO h=0/\∃v,bX h=bX h0++[(q.1,q.1,q.2.1,q.2.2.1,q.2.2.2,v)]/\Rpl n g0 q.2.1 q.2.2.1 q.2.2.2 v g)\/(shO h≠0/\bX h=bX h0/\g=g0/\qO h=q/\(i=0\/i=1/\(P7 h).2.1=4))))
theorem acm (a:List Int) (h:a.length<=maxLen):UD a=some (true,()):=by
 have hm:maxLen=9223372036854775807:=by decide
 show Jf BIG _=_;rw [ahF,apY,ae];by_cases ha:a.length<=1048576;case neg=>rw [ai (by omega)];rfl
 rw [au (by omega),aj];obtain ⟨n,h0,S0,ss0,g0,k,op,a',b',k1,hSL0,hP0,hk,hb0⟩:=R3 a ha;rw [k1,ae];simp only;have hz0:=hP0.sz;obtain ⟨hn,hn2,hk3,hlab,hg0,hf0,hsl0,_⟩:=hP0.len;have hgl0:=FD hg0;refine bW (P:=fun o=>o=some (true,())) (fun (s:(Int × List Ed) × Int)=>∃i:Nat,s.2=(i:Int)/\i<=(bX h0).length/\s.1=((n:Int),((bX h0).take i).foldl (t_ n) [])/\(((bX h0).take i).foldl (t_ n) []).length<=i) (fun s=>(bX h0).length-s.2.toNat)
  (fun _ (b:Int × List Ed)=>b=((n:Int),g0)) (by simp only [BIG];omega) ⟨0,rfl,by omega,by simp only [hn];rfl,by simp⟩ (fun self s hx hs => ?_) (fun b hb => ?_)
 ·obtain ⟨T,j⟩:=s;obtain ⟨i,h1,hi,hT,hl⟩:=hx;simp only at h1 hT hs ⊢;subst h1 hT;have hsd:h0.2.2.2.2.2.2.2.2.2.2.2.2.2.2=bX h0:=rfl;rw [hsd];by_cases hlt:i<(bX h0).length
  ·rw [ai (by omega),ah,aB hlt,aO hlt,ae];have hstep:((bX h0).take (i+1)).foldl (t_ n) []=t_ n (((bX h0).take i).foldl (t_ n) []) (bX h0)[i]:=by
    rw [List.take_succ_eq_append_getElem hlt,List.foldl_append];rfl
   by_cases h3:(bX h0)[i].2.2.2.2.2=3
   ·rw [ai h3];simp only [aZ,aj,ae];rw [bE (by omega)];have hst2:((bX h0).take (i+1)).foldl (t_ n) []=((bX h0).take i).foldl (t_ n) []:=by
     rw [hstep];unfold t_;rw [if_pos h3]
    exact hs _ ⟨i+1,rfl,by omega,by rw [hst2],by rw [hst2];omega⟩ (by simp;omega)
   ·rw [au h3];simp only [dM,ah];rw [aB hlt,aO hlt,ae,abP _ _ _ _ _ _ (by omega),ae,ae];simp only;rw [bE (by omega)];have hst2:((bX h0).take (i+1)).foldl (t_ n) []=(lG n (((bX h0).take i).foldl (t_ n) []) (bX h0)[i].2.2.1 (bX h0)[i].2.2.2.1 (bX h0)[i].2.2.2.2.1).2.1:=by
     rw [hstep];show t_ n (((bX h0).take i).foldl (t_ n) []) (bX h0)[i]=_;unfold t_;rw [if_neg h3]
    have hms:=aqf n (((bX h0).take i).foldl (t_ n) []) (bX h0)[i].2.2.1 (bX h0)[i].2.2.2.1 (bX h0)[i].2.2.2.2.1;exact hs _ ⟨i+1,rfl,by omega,by rw [hst2,hms.1],by rw [hst2];omega⟩ (by simp;omega)
  ·rw [au (by omega),aj];have hil:i=(bX h0).length:=by omega
   refine ⟨_,rfl,?_⟩;rw [hil,List.take_length,hf0]
 subst hb;obtain ⟨h1,told,g1,e1,hP1,hst⟩:=hP0.take (by omega) 200 op a' b';have hz1:=hP1.sz;have t1:=afo hz0 200 op a' b';have t2:=afp hz0 200 op a' b';rw [e1] at t1 t2;have hA:Ask told h0 n g0 (200,op,a',b') 0 h1 g1:=by
  rcases hst with ⟨r1,r2,r3⟩|⟨r1,_,⟨r2,r3,r4⟩|⟨r2,r3,r4,r5,r6⟩⟩
  ·exact .inl ⟨r1,by rw [r2];exact hb0,by rw [r2]⟩
  ·exact .inr ⟨by omega,r1,.inl ⟨r3,r4⟩⟩
  ·exact .inr ⟨by omega,r1,.inr ⟨r3,r4,r5,r6,.inl rfl⟩⟩
 have htold:(decide (told=2)) = !decide (shO h1=0):=by
  rcases hst with ⟨r1,r2,r3⟩|⟨r1,_,⟨r2,r3,r4⟩|⟨r2,r3,r4,r5,r6⟩⟩
  ·rw [r1,r2,hb0];rfl
  ·rw [r2,r3];rfl
  ·rw [r2,au r3];rfl
 rw [t1,ae,t2,ae,hP0.ok.1];have ok1:=hP1.ok.1;simp only [NA,decide_true,aZ,aj,ae];rw [ok1];simp only [aZ,aj,ae];rw [afC h1,ae,ae];simp only [htold,beq_self_eq_true,aZ,aj];refine bW (P:=fun o=>o=some (true,())) (fun (s:List wL × Hd × Int)=>∃(i:Nat) (ss:List m_) (g:List Ed),s.2.2=(i:Int)/\i<=3/\SLR n s.1 ss/\HP n s.2.1 ss g (k+1+i)/\Ask told h0 n g0 (200,op,a',b') i s.2.1 g) (fun s=>3-s.2.2.toNat)
  (fun _ (b:Hd ⊕ Bool)=>∃(h:Hd) (ss:List m_) (g:List Ed) (c:Nat),b=Sum.inl h/\HP n h ss g c/\shO h=0/\Ask told h0 n g0 (200,op,a',b') 3 h g) (by simp [BIG]) ⟨0,ss0,g1,rfl,by omega,hSL0,hP1,hA⟩ (fun self s hx hs => ?_) (fun b hb => ?_)
 ·obtain ⟨S,h,j⟩:=s;obtain ⟨i,ss,g,hj,hi,hSL,hP,hAs⟩:=hx;simp only at hj hSL hP hAs hs ⊢;subst hj;have hz:=hP.sz;have hlen:=hP.len;have hbz:(bif decide ((i:Int)<(3:Int)) then Option.bind (qG h) fun r19=>some r19.1 else some false:Option Bool)=some (!decide (shO h=0)&&decide (i<3)):=by
   by_cases h4:i<3
   ·rw [ai (by omega),ah,afC,ae,ai h4,Bool.and_true]
   ·rw [au (by omega),aj,au h4,Bool.and_false]
  rw [hbz,ae];by_cases hb:shO h=0
  ·rw [ai hb];simp only [aZ,Bool.false_and,aj];refine ⟨_,rfl,h,ss,g,_,rfl,hP,hb,?_⟩;rcases hAs with r|⟨r1,r2,r3|r3⟩
   ·exact .inl r
   ·exact .inr ⟨r1,r2,.inl r3⟩
   ·exact absurd hb r3.1
  ·obtain ⟨r1,r2,r3,r4,r5,r6⟩:told≠0/\sA (bX h0) 200<0/\bX h=bX h0/\g=g0/\qO h=(200,op,a',b')/\(i=0\/i=1/\(P7 h).2.1=4):=by
    rcases hAs with ⟨_,r,_⟩|⟨r1,r2,⟨r,_⟩|⟨_,r3,r4,r5,r6⟩⟩
    ·exact absurd r hb
    ·exact absurd r hb
    ·exact ⟨r1,r2,r3,r4,r5,r6⟩
   rw [au hb,ai (show i<3 by omega)];simp only [dM,Bool.and_self,ah];obtain ⟨L,y,L',z,h',told',g',q1,q2,q3,q4,q5,q6,q7,q8,q9,q10,YB,q12⟩:=hP.hear hb (by omega);obtain ⟨p1,p2⟩:=hSL.at q1.1 q2;have hzl:=q7.len;have q5':qI ((shO h,(n:Int),L,y),(h.2.2.2.2.2.2.2.2.2.2.1,h.2.2.2.2.2.2.2.2.2.2.2.1,h.2.2.2.2.2.2.2.2.2.2.2.2.1,h.2.2.2.2.2.2.2.2.2.2.2.2.2.1))=some (iQ (shO h) n L' z,()):=q5;have hw1:IntKind.wrap .i64 (h.2.2.2.2.2.2.2.2.2.1-1)=shO h-1:=wr (n:=shO h-1) (by omega) (by omega);rw [hw1,bn (by omega) (by omega),p2,ae,q5',ae];have hacc0:(iQ (shO h) (n:Int) L' z).2.2.2.2.2.2.2.2.2.2.2=0:=rfl;simp only [hacc0,decide_true,aZ,aj];rw [bn (by omega) (by omega),p2,ae];have hh:Fp (h,h.2.2.2.2.2.2.2.2.2.1,((iQ (shO h) (n:Int) L' z).2.2.2.2.2.2.2.1,(iQ (shO h) (n:Int) L' z).2.2.2.2.2.2.2.2.1,(iQ (shO h) (n:Int) L' z).2.2.2.2.2.2.2.2.2.1,(iQ (shO h) (n:Int) L' z).2.2.2.2.2.2.2.2.2.2.1))=some (NA h' told',()):=(aoi hz (shO h) z (by omega) (by omega)).trans (by rw [q10]);rw [hh,ae];have hne:told'≠0:=by
    rcases q12 with ⟨r,_⟩|⟨r,_⟩<;>omega
   simp only [NA];rw [au hne];simp only [aj];rw [YB.ok.1,ae];simp only [aZ,ae,aj];rw [bE (by omega)];refine hs _ ⟨i+1,ss.set (shO h-1).toNat (L',z),g',rfl,by omega,hSL.set q1.1 L' z,YB,?_⟩ (by simp;omega);rw [r3,r4,r5] at q12;rcases q12 with ⟨_,s2,s3⟩|⟨_,s2,s3,s4,s5,s6,s7⟩
   ·exact .inr ⟨r1,r2,.inl ⟨s2,s3⟩⟩
   ·refine .inr ⟨r1,r2,.inr ⟨s2,s3,s4,s5,.inr ⟨?_,s7⟩⟩⟩;rcases r6 with r6|r6
    ·omega
    ·rw [r6.2] at s6;omega
 ·obtain ⟨hh,ss,g,c,rfl,hP,hb,hAs⟩:=hb;simp only;have hz:=hP.sz;have hlen:=hP.len;rcases hAs with ⟨r1,_,r3⟩|⟨r1,r2,⟨_,v,r3,r4⟩|⟨r,_⟩⟩
  ·rw [ai r1,ah];have:((bX hh).length:Int)=((bX h0).length:Int):=by rw [r3]
   exact congrArg some (Prod.ext (ai this) rfl)
  ·have r2:sA (bX h0) 200<0:=r2;have r3:bX hh=bX h0++[(200,200,op,a',b',v)]:=r3;have hsa:sA (bX hh) 200=((bX h0).length:Int):=by rw [r3,ach,if_neg (by omega),if_pos rfl]
   have hln:(bX hh).length=(bX h0).length+1:=by rw [r3];simp
   have hr:tC (hh,(200:Int))=some ((v,true),()):=by
    rw [ah2 hh 200 (by omega),hsa,au (by omega),if_neg (by simp),aB (by omega),r3,List.getElem?_append_right (Nat.le_refl _),Nat.sub_self];rfl
   have ht:yB (hh,((200:Int),op,a',b'))=some (NA hh 0,()):=(afo hz 200 op a' b').trans (by rw [aqL (by rw [hsa];omega)]);have hsm:vM (List.take ((Int.toNat ((bX h0).length:Int))-0) (List.drop 0 (bX hh)),bX h0)=some (true,()):=by
    rw [fH,Nat.sub_zero,List.drop_zero,r3,List.take_left];exact adM _ (by omega)
   have hmd:=abP (n:Int) g0 200 op a' b' (by omega);have hsd0:h0.2.2.2.2.2.2.2.2.2.2.2.2.2.2=bX h0:=rfl;have hsd1:hh.2.2.2.2.2.2.2.2.2.2.2.2.2.2=bX hh:=rfl;rw [au r1,aj,hr,ae,ht,ae];simp only [NA,hsd0,hsd1,aZ,aj,decide_true];rw [bE (by omega),ai (show ((bX hh).length:Int)=(((bX h0).length+1:Nat):Int) by omega),ai (show (0:Int)<=((bX h0).length:Int) by omega),ai (show 0<=(Int.toNat ((bX h0).length:Int))/\(Int.toNat ((bX h0).length:Int))<=(bX hh).length from ⟨by omega,by omega⟩)];simp only [aZ,aj,ah];rw [hsm];simp only [ae,aZ,aj];rw [hmd,ae];obtain ⟨_,hv,hrp⟩:=r4;simp only at hrp ⊢;by_cases hvm:v=(lG (n:Int) g0 op a' b').2.2
   ·rw [ai hvm];rfl
   ·rcases hrp with hrp|⟨h4,h5⟩
    ·exact absurd hrp hvm
    ·rw [au hvm,ai h4];simp only [aj,ah];rcases h5 with h5|⟨h5,h6⟩
     ·rw [ai h5];rfl
     ·by_cases h7:v=2
      ·rw [ai h7];rfl
      ·rw [au h7,ai h5,ai h6];rfl
  ·exact absurd hb r
end Go.Fw
