/- What the given functions come to. No conditions. -/
import Derived.Test.YtbdciplhpomakaaX1
import Derived.IntWalk
set_option linter.unusedVariables false
set_option linter.unusedSimpArgs false
set_option linter.unusedSectionVars false
namespace Go.Fw
theorem loop_rel {X B:Type} {F:(X->Option B)->X->Option B} (I:X->Prop) (μ:X->Nat) (Q:X->B->Prop)
  (h:∀self x,I x->(∀y,I y->μ y<μ x->∃b,self y=some b/\Q y b)->∃b,F self x=some b/\Q x b):∀{n:Nat} {x:X},μ x<n->I x->∃b,loopT n F x=some b/\Q x b
 | 0,_,hn,_=>absurd hn (Nat.not_lt_zero _)
 | n+1,x,hn,hi=>h (it F n) x hi fun _ hy hm=>loop_rel I μ Q h (n:=n) (by omega) hy
theorem loop_eq {X B:Type} {F:(X->Option B)->X->Option B} (I:X->Prop) (μ:X->Nat) (R:X->B)
  (h:∀self x,I x->(∀y,I y->μ y<μ x->self y=some (R y))->F self x=some (R x)) {n:Nat} {x:X} (hn:μ x<n) (hi:I x):loopT n F x=some (R x):=by
 obtain ⟨b,h1,h2⟩:=loop_rel (F:=F) I μ (fun x b=>b=R x) (fun self x hx hs=>⟨_,h self x hx fun y hy hm=>by obtain ⟨b,h1,h2⟩:=hs y hy hm;rw [h1,h2],rfl⟩) hn hi
 rw [h1,h2]
theorem wr {n:Int} (h : -9223372036854775808<=n) (h':n<=9223372036854775807):IntKind.wrap .i64 n=n:=by
 rw [IntKind.wrap_i64];omega
theorem wr1 {i:Nat} (h:i<maxLen):IntKind.wrap .i64 ((i:Int)+1)=((i+1:Nat):Int):=by
 have:maxLen=9223372036854775807:=by decide
 rw [wr (by omega) (by omega)];rfl
theorem bnd_ok {B:Type} {len:Nat} {i:Int} {k:Nat->Option B} (h:0<=i) (h':i<len):bnd len i k=k i.toNat:=by
 unfold bnd
 rw [if_pos ⟨h,by omega⟩]
theorem bnd_nat {B:Type} {len:Nat} {i:Nat} {k:Nat->Option B} (h':i<len):bnd len (i:Int) k=k i:=by
 rw [bnd_ok (Int.natCast_nonneg i) (by omega)]
 simp
theorem allLoop {α B:Type} (a:List α) (hl:a.length<18446744073709551616) {F:(Int->Option (Unit ⊕ B))->Int->Option (Unit ⊕ B)} (p:Nat->Bool) (b:B)
  (hF:∀self (i:Nat) y,a[i]?=some y->F self (i:Int)=if p i then self ((i+1:Nat):Int) else some (.inr b))
  (hE:∀self,F self (a.length:Int)=some (.inl ())):loopT BIG F 0=some (if ∀i,i<a.length->p i=true then .inl () else .inr b):=by
 have hh:=loop_rel (F:=F) (fun x=>∃i:Nat,x=i/\i<=a.length) (fun x=>a.length-x.toNat) (fun x r=>((∀i:Nat,x<=(i:Int)->i<a.length->p i=true)/\r = .inl ())\/((∃i:Nat,i<a.length/\p i=false)/\r = .inr b)) (fun self x ⟨i,h1,h2⟩ hs => ?_) (n:=BIG) (x:=0) (by simp;exact hl) ⟨0,rfl,by simp⟩
 ·obtain ⟨r,hr,hq⟩:=hh
  rw [hr]
  congr 1
  rcases hq with ⟨h1,rfl⟩|⟨⟨i,h1,h2⟩,rfl⟩
  ·rw [if_pos fun i hi=>h1 i (by omega) hi]
  ·rw [if_neg]
   intro h
   rw [h i h1] at h2;cases h2
 ·subst h1
  by_cases hi:i<a.length
  ·rw [hF self i a[i] (List.getElem?_eq_getElem hi)]
   cases hp:p i with
   | true=>
    rw [if_pos rfl]
    obtain ⟨r,hr,hq⟩:=hs _ ⟨i+1,rfl,hi⟩ (by simp;omega)
    refine ⟨r,hr,?_⟩
    rcases hq with ⟨h1,rfl⟩|h1
    ·refine .inl ⟨fun k hk hk' => ?_,rfl⟩
     by_cases h:k=i
     ·subst h;exact hp
     ·exact h1 k (by omega) hk'
    ·exact .inr h1
   | false=>exact ⟨_,rfl,.inr ⟨⟨i,hi,hp⟩,rfl⟩⟩
  ·have:i=a.length:=by omega
   subst this
   exact ⟨_,hE self,.inl ⟨fun k hk hk'=>by omega,rfl⟩⟩
theorem maxLen_lt:maxLen<18446744073709551616:=by decide
theorem eqLoop {α B:Type} [DecidableEq α] (a b:List α) (hl:a.length<=maxLen) (hab:a.length=b.length) {F:(Int->Option (Unit ⊕ B))->Int->Option (Unit ⊕ B)} (r:B)
  (hF:∀self (i:Nat) x y,a[i]?=some x->b[i]?=some y->F self (i:Int)=if x=y then self ((i+1:Nat):Int) else some (.inr r))
  (hE:∀self,F self (a.length:Int)=some (.inl ())):loopT BIG F 0=some (if a=b then .inl () else .inr r):=by
 rw [allLoop a (Nat.lt_of_le_of_lt hl maxLen_lt) (fun i=>decide (a[i]?=b[i]?)) r (fun self i y hy => ?_) hE]
 ·congr 1
  by_cases h:a=b
  ·subst h;simp
  ·rw [if_neg h,if_neg]
   intro h'
   apply h
   apply List.ext_getElem? fun i => ?_
   by_cases hi:i<a.length
   ·simpa using h' i hi
   ·rw [List.getElem?_eq_none (by omega),List.getElem?_eq_none (by omega)]
 ·have hi:=(List.getElem?_eq_some_iff.1 hy).1
  have hb:b[i]?=some (b[i]'(by omega)):=List.getElem?_eq_getElem (by omega)
  rw [hF self i y _ hy hb,hy,hb]
  simp
theorem foldLoop {α S B:Type} (a:List α) (hl:a.length<18446744073709551616) {F:(S × Int->Option B)->S × Int->Option B} (I:Nat->S->Prop) (st:S->α->S) (R:S->B) {s0:S} (h0:I 0 s0)
  (hI:∀i s y,a[i]?=some y->I i s->I (i+1) (st s y)) (hF:∀self s (i:Nat) y,a[i]?=some y->I i s->F self (s,(i:Int))=self (st s y,((i+1:Nat):Int)))
  (hE:∀self s,I a.length s->F self (s,(a.length:Int))=some (R s)):loopT BIG F (s0,0)=some (R (a.foldl st s0)):=by
 have:=loop_eq (F:=F) (fun x=>∃i:Nat,x.2=i/\i<=a.length/\I i x.1) (fun x=>a.length-x.2.toNat) (fun x=>R ((a.drop x.2.toNat).foldl st x.1)) (fun self x ⟨i,h1,h2,h3⟩ hs => ?_) (n:=BIG) (x:=(s0,0)) (by simp;exact hl) ⟨0,rfl,by simp,h0⟩
 ·simpa using this
 ·obtain ⟨s,j⟩:=x
  simp only at h1 h2 h3
  subst h1
  by_cases hi:i<a.length
  ·have hy:=List.getElem?_eq_getElem hi
   rw [hF self s i a[i] hy h3,hs _ ⟨i+1,rfl,hi,hI _ _ _ hy h3⟩ (by simp;omega)]
   simp only [Int.toNat_natCast]
   rw [List.drop_eq_getElem_cons hi,List.foldl_cons]
  ·have:i=a.length:=by omega
   subst this
   rw [hE self s h3]
   simp
theorem set_take_drop {α:Type} {a t:List α} {i:Nat} {z:α} (ht:t.length=a.length) (hi:i<a.length) (hz:t[i]?=some z):(t.take i++a.drop i).set i z=t.take (i+1)++a.drop (i+1):=by
 have hi':i<t.length:=by omega
 rw [List.getElem?_eq_getElem hi',Option.some.injEq] at hz
 subst hz
 rw [List.set_append_right _ _ (by simp;omega),List.drop_eq_getElem_cons hi,show i-(t.take i).length=0 from by simp;omega,List.set_cons_zero,List.take_succ_eq_append_getElem hi',List.append_assoc]
 rfl
def HdL {α:Type} (hd:Int->α->Int->Prop):Int->List α->Int->Prop
 | k,[],k'=>k'=k
 | k,z::t,k'=>∃k1,hd k z k1/\HdL hd k1 t k'
theorem HdL.snoc {α:Type} {hd:Int->α->Int->Prop}:∀{t:List α} {k k1 k2:Int} {z:α},HdL hd k t k1->hd k1 z k2->HdL hd k (t++[z]) k2
 | [],_,_,_,_,h,h'=>by cases h;exact ⟨_,h',rfl⟩
 | _::_,_,_,_,_,⟨k3,h1,h2⟩,h'=>⟨k3,h1,h2.snoc h'⟩
inductive Con (E:List (Int × Int)):Int->Int->Prop
 | refl (v:Int):Con E v v
 | fwd {u v w:Int}:Con E u v->(v,w)∈E->Con E u w
 | bwd {u v w:Int}:Con E u v->(w,v)∈E->Con E u w
theorem Con.trans {E:List (Int × Int)} {u v w:Int} (h:Con E u v) (h':Con E v w):Con E u w:=by
 induction h' with
 | refl=>exact h
 | fwd _ he ih=>exact .fwd ih he
 | bwd _ he ih=>exact .bwd ih he
theorem Con.symm {E:List (Int × Int)} {u v:Int} (h:Con E u v):Con E v u:=by
 induction h with
 | refl=>exact .refl _
 | fwd _ he ih=>exact Con.trans (.bwd (.refl _) he) ih
 | bwd _ he ih=>exact Con.trans (.fwd (.refl _) he) ih
theorem Con.mono {E E':List (Int × Int)} (hE:∀e,e∈E->e∈E') {u v:Int} (h:Con E u v):Con E' u v:=by
 induction h with
 | refl=>exact .refl _
 | fwd _ he ih=>exact .fwd ih (hE _ he)
 | bwd _ he ih=>exact .bwd ih (hE _ he)
theorem Con.of {E:List (Int × Int)} {u v:Int} (h:(u,v)∈E):Con E u v:=.fwd (.refl _) h
theorem Con.sub {E E':List (Int × Int)} (hE:∀e,e∈E->Con E' e.1 e.2) {u v:Int} (h:Con E u v):Con E' u v:=by
 induction h with
 | refl=>exact .refl _
 | fwd _ he ih=>exact ih.trans (hE _ he)
 | bwd _ he ih=>exact ih.trans (hE _ he).symm
theorem Con.nil {u v:Int} (h:Con [] u v):u=v:=by
 induction h with
 | refl=>rfl
 | fwd _ he _=>cases he
 | bwd _ he _=>cases he
theorem Con.snoc {E:List (Int × Int)} {a b u v:Int}:Con (E++[(a,b)]) u v↔Con E u v\/(Con E u a/\Con E b v)\/(Con E u b/\Con E a v):=by
 constructor
 ·intro h
  induction h with
  | refl=>exact .inl (.refl _)
  | fwd _ he ih=>
   rcases List.mem_append.1 he with h1|h1
   ·rcases ih with h|⟨h,h'⟩|⟨h,h'⟩
    ·exact .inl (.fwd h h1)
    ·exact .inr (.inl ⟨h,.fwd h' h1⟩)
    ·exact .inr (.inr ⟨h,.fwd h' h1⟩)
   ·cases List.mem_singleton.1 h1
    rcases ih with h|⟨h,h'⟩|⟨h,h'⟩
    ·exact .inr (.inl ⟨h,.refl _⟩)
    ·exact .inr (.inl ⟨h,.refl _⟩)
    ·exact .inl h
  | bwd _ he ih=>
   rcases List.mem_append.1 he with h1|h1
   ·rcases ih with h|⟨h,h'⟩|⟨h,h'⟩
    ·exact .inl (.bwd h h1)
    ·exact .inr (.inl ⟨h,.bwd h' h1⟩)
    ·exact .inr (.inr ⟨h,.bwd h' h1⟩)
   ·cases List.mem_singleton.1 h1
    rcases ih with h|⟨h,h'⟩|⟨h,h'⟩
    ·exact .inr (.inr ⟨h,.refl _⟩)
    ·exact .inl h
    ·exact .inr (.inr ⟨h,.refl _⟩)
 ·have hm:∀{x y:Int},Con E x y->Con (E++[(a,b)]) x y:=fun h=>h.mono fun e he=>List.mem_append_left _ he
  have hab:Con (E++[(a,b)]) a b:=.of (List.mem_append_right _ (List.mem_singleton.2 rfl))
  rintro (h|⟨h,h'⟩|⟨h,h'⟩)
  ·exact hm h
  ·exact (hm h).trans (hab.trans (hm h'))
  ·exact (hm h).trans (hab.symm.trans (hm h'))
def EIn (n:Nat) (E:List (Int × Int)):Prop:=∀e,e∈E->0<=e.1/\e.1<n/\0<=e.2/\e.2<n
theorem Con.range {n:Nat} {E:List (Int × Int)} (hE:EIn n E) {u v:Int} (h:Con E u v) (hu:0<=u/\u<n):0<=v/\v<n:=by
 induction h with
 | refl=>exact hu
 | fwd _ he _=>exact ⟨(hE _ he).2.2.1,(hE _ he).2.2.2⟩
 | bwd _ he _=>exact ⟨(hE _ he).1,(hE _ he).2.1⟩
def Lab (n:Nat) (E:List (Int × Int)) (l:List Int):Prop:=
 l.length=n/\∀(v:Nat) (x:Int),l[v]?=some x->Con E v x/\0<=x/\∀u:Int,0<=u->Con E v u->x<=u
theorem Lab.le {n:Nat} {E:List (Int × Int)} {l:List Int} (h:Lab n E l) {v:Nat} {x:Int} (hx:l[v]?=some x):x<=v:=
 (h.2 v x hx).2.2 v (Int.natCast_nonneg v) (.refl _)
theorem Lab.lt {n:Nat} {E:List (Int × Int)} {l:List Int} (h:Lab n E l) {v:Nat} {x:Int} (hx:l[v]?=some x):0<=x/\x<n:=by
 have h1:=h.le hx
 have h2:=(List.getElem?_eq_some_iff.1 hx).1
 have h3:=(h.2 v x hx).2.1
 have h4:=h.1
 omega
theorem Lab.iff {n:Nat} {E:List (Int × Int)} {l:List Int} (h:Lab n E l) {u v:Nat} {x y:Int} (hx:l[u]?=some x) (hy:l[v]?=some y):x=y↔Con E u v:=by
 have h1:=h.2 u x hx
 have h2:=h.2 v y hy
 constructor
 ·intro e
  subst e
  exact h1.1.trans h2.1.symm
 ·intro c
  have a:=h1.2.2 y h2.2.1 (c.trans h2.1)
  have b:=h2.2.2 x h1.2.1 (c.symm.trans h1.1)
  omega
theorem Lab.self {n:Nat} {E:List (Int × Int)} {l:List Int} (h:Lab n E l) {v:Nat} {x:Int} (hx:l[v]?=some x):l[x.toNat]?=some x:=by
 have h1:=h.lt hx
 have hi:x.toNat<l.length:=by rw [h.1];omega
 rw [List.getElem?_eq_getElem hi]
 have h2:=h.2 v x hx
 have hc:Con E (x.toNat:Int) v:=by rw [Int.toNat_of_nonneg h1.1];exact h2.1.symm
 rw [(h.iff (List.getElem?_eq_getElem hi) hx).2 hc]
theorem Lab.uniq {n:Nat} {E E':List (Int × Int)} {l l':List Int} (h:Lab n E l) (h':Lab n E' l') (hc:∀u v:Int,Con E u v↔Con E' u v):l=l':=by
 apply List.ext_getElem?
 intro i
 by_cases hi:i<n
 ·have e1:l[i]?=some (l[i]'(by rw [h.1];exact hi)):=List.getElem?_eq_getElem _
  have e2:l'[i]?=some (l'[i]'(by rw [h'.1];exact hi)):=List.getElem?_eq_getElem _
  rw [e1,e2]
  have h1:=h.2 i _ e1
  have h2:=h'.2 i _ e2
  have a:=h1.2.2 _ h2.2.1 ((hc _ _).2 h2.1)
  have b:=h2.2.2 _ h1.2.1 ((hc _ _).1 h1.1)
  congr 1
  omega
 ·rw [List.getElem?_eq_none (by rw [h.1];omega),List.getElem?_eq_none (by rw [h'.1];omega)]
def lab0 (n:Nat):List Int:=(List.range n).map fun (i:Nat)=>(i:Int)
theorem lab0_get {n v:Nat} {x:Int} (h:(lab0 n)[v]?=some x):v<n/\x=v:=by
 have hi:=(List.getElem?_eq_some_iff.1 h).1
 simp only [lab0,List.length_map,List.length_range] at hi
 simp only [lab0,List.getElem?_map,List.getElem?_range hi,Option.map_some,Option.some.injEq] at h
 exact ⟨hi,h.symm⟩
theorem lab0_len (n:Nat):(lab0 n).length=n:=by simp [lab0]
theorem Lab.zero (n:Nat):Lab n [] (lab0 n):=by
 refine ⟨lab0_len n,fun v x h => ?_⟩
 obtain ⟨_,rfl⟩:=lab0_get h
 exact ⟨.refl _,Int.natCast_nonneg v,fun u _ h=>by rw [h.nil];exact Int.le_refl _⟩
def unL (l:List Int) (x y:Int):List Int:=l.map fun z=>if z=(if y > x then y else x) then (if y<x then y else x) else z
theorem unL_len (l:List Int) (x y:Int):(unL l x y).length=l.length:=by simp [unL]
theorem unL_same (l:List Int) (x:Int):unL l x x=l:=by
 unfold unL
 conv=>rhs;rw [<-List.map_id l]
 apply List.map_congr_left
 intro z _
 simp only [gt_iff_lt,Int.lt_irrefl,if_false,id]
 split<;>simp_all
theorem Lab.union {n:Nat} {E:List (Int × Int)} {l:List Int} (h:Lab n E l) {a b:Nat} {x y:Int} (hx:l[a]?=some x) (hy:l[b]?=some y):Lab n (E++[((a:Int),(b:Int))]) (unL l x y):=by
 refine ⟨by rw [unL_len,h.1],fun v z hz => ?_⟩
 simp only [unL,List.getElem?_map,Option.map_eq_some_iff] at hz
 obtain ⟨w,hw,hz⟩:=hz
 have hax:=h.2 a x hx
 have hby:=h.2 b y hy
 have hvw:=h.2 v w hw
 have ew:∀{c:Nat} {t:Int},l[c]?=some t->(w=t↔Con E v c):=fun hc=>h.iff hw hc
 have hA:=ew hx
 have hB:=ew hy
 have hab:Con (E++[((a:Int),(b:Int))]) a b:=.of (List.mem_append_right _ (List.mem_singleton.2 rfl))
 have hm:∀{s t:Int},Con E s t->Con (E++[((a:Int),(b:Int))]) s t:=fun h=>h.mono fun e he=>List.mem_append_left _ he
 by_cases hxy:x=y
 ·subst hxy
  have hcab:Con E a b:=(h.iff hx hy).1 rfl
  have:z=w:=by
   subst hz
   simp only [gt_iff_lt,Int.lt_irrefl,if_false]
   split<;>simp_all
  subst this
  refine ⟨hm hvw.1,hvw.2.1,fun u hu hc => ?_⟩
  apply hvw.2.2 u hu
  rcases Con.snoc.1 hc with h1|⟨h1,h2⟩|⟨h1,h2⟩
  ·exact h1
  ·exact h1.trans (hcab.trans h2)
  ·exact h1.trans (hcab.symm.trans h2)
 ·have key:∀u:Int,0<=u->Con (E++[((a:Int),(b:Int))]) v u->(w<=u)\/(w=x/\y<=u)\/(w=y/\x<=u):=by
   intro u hu hc
   rcases Con.snoc.1 hc with h1|⟨h1,h2⟩|⟨h1,h2⟩
   ·exact .inl (hvw.2.2 u hu h1)
   ·exact .inr (.inl ⟨hA.2 h1,hby.2.2 u hu h2⟩)
   ·exact .inr (.inr ⟨hB.2 h1,hax.2.2 u hu h2⟩)
  by_cases hwx:w=x
  ·have hva:=hA.1 hwx
   subst hwx
   by_cases hlt:y > w
   ·rw [if_pos hlt,if_neg (by omega)] at hz
    subst hz
    refine ⟨hm hvw.1,hvw.2.1,fun u hu hc => ?_⟩
    rcases key u hu hc with h1|h1|h1<;>omega
   ·rw [if_neg hlt,if_pos rfl,if_pos (by omega)] at hz
    subst hz
    refine ⟨(hm hva).trans (hab.trans (hm hby.1)),hby.2.1,fun u hu hc => ?_⟩
    rcases key u hu hc with h1|h1|h1<;>omega
  ·by_cases hwy:w=y
   ·have hvb:=hB.1 hwy
    subst hwy
    by_cases hlt:w > x
    ·rw [if_pos hlt,if_pos rfl,if_neg (by omega)] at hz
     subst hz
     refine ⟨(hm hvb).trans (hab.symm.trans (hm hax.1)),hax.2.1,fun u hu hc => ?_⟩
     rcases key u hu hc with h1|h1|h1<;>omega
    ·rw [if_neg hlt,if_neg hwx] at hz
     subst hz
     refine ⟨hm hvw.1,hvw.2.1,fun u hu hc => ?_⟩
     rcases key u hu hc with h1|h1|h1<;>omega
   ·rw [if_neg (by split<;>omega)] at hz
    subst hz
    refine ⟨hm hvw.1,hvw.2.1,fun u hu hc => ?_⟩
    rcases key u hu hc with h1|h1|h1<;>omega
def unE (l:List Int) (e:Int × Int):List Int:=unL l (l.getD e.1.toNat 0) (l.getD e.2.toNat 0)
theorem unE_len (l:List Int) (e:Int × Int):(unE l e).length=l.length:=unL_len _ _ _
theorem Lab.unE {n:Nat} {E:List (Int × Int)} {l:List Int} (h:Lab n E l) {e:Int × Int} (he:0<=e.1/\e.1<n/\0<=e.2/\e.2<n):Lab n (E++[e]) (unE l e):=by
 have h1:e.1.toNat<l.length:=by rw [h.1];omega
 have h2:e.2.toNat<l.length:=by rw [h.1];omega
 have:=h.union (a:=e.1.toNat) (b:=e.2.toNat) (List.getElem?_eq_getElem h1) (List.getElem?_eq_getElem h2)
 rw [Int.toNat_of_nonneg he.1,Int.toNat_of_nonneg he.2.2.1] at this
 unfold Go.Fw.unE
 rw [List.getD_eq_getElem?_getD,List.getD_eq_getElem?_getD,List.getElem?_eq_getElem h1,List.getElem?_eq_getElem h2]
 exact this
theorem Lab.fold {n:Nat}:∀{D E:List (Int × Int)} {l:List Int},Lab n E l->EIn n D->Lab n (E++D) (D.foldl Go.Fw.unE l)
 | [],E,l,h,_=>by simpa using h
 | e::D,E,l,h,hD=>by
  have:=Lab.fold (D:=D) (h.unE (hD e (List.mem_cons_self ..))) fun x hx=>hD x (List.mem_cons_of_mem _ hx)
  rw [List.foldl_cons]
  rwa [List.append_assoc] at this
def labs (n:Nat) (E:List (Int × Int)):List Int:=E.foldl unE (lab0 n)
theorem labs_ok {n:Nat} {E:List (Int × Int)} (h:EIn n E):Lab n E (labs n E):=by
 have:=(Lab.zero n).fold h
 simpa [labs] using this
theorem labs_len (n:Nat) (E:List (Int × Int)):(labs n E).length=n:=by
 have:∀(E:List (Int × Int)) (l:List Int),(E.foldl unE l).length=l.length:=by
  intro E
  induction E with
  | nil=>simp
  | cons e E ih=>intro l;rw [List.foldl_cons,ih,unE_len]
 rw [labs,this,lab0_len]
def rlE (l:List Int) (e:Int × Int):List Int:=
 let x:=l.getD e.1.toNat 0
 let y:=l.getD e.2.toNat 0
 let l:=if x<y then l.set e.2.toNat x else l
 if y<x then l.set e.1.toNat y else l
theorem rlE_len (l:List Int) (e:Int × Int):(rlE l e).length=l.length:=by
 unfold rlE;simp only;split<;>split<;>simp
def lrnd (E:List (Int × Int)) (l:List Int):List Int:=E.foldl rlE l
theorem lrnd_len:∀(E:List (Int × Int)) (l:List Int),(lrnd E l).length=l.length
 | [],l=>rfl
 | e::E,l=>by show (lrnd E (rlE l e)).length=_;rw [lrnd_len E,rlE_len]
section
variable {n:Nat} {E:List (Int × Int)} {L:List Int}
def Dn (n:Nat) (E:List (Int × Int)) (l:List Int):Prop:=l.length=n/\∀(v:Nat) (x:Int),l[v]?=some x->Con E v x/\0<=x
theorem Dn.ge (hL:Lab n E L) {l:List Int} (h:Dn n E l) {v:Nat} {x y:Int} (hx:l[v]?=some x) (hy:L[v]?=some y):y<=x:=
 (hL.2 v y hy).2.2 x (h.2 v x hx).2 (h.2 v x hx).1
theorem Dn.set {l:List Int} (h:Dn n E l) {v:Nat} {x:Int} (hc:Con E v x) (h0:0<=x):Dn n E (l.set v x):=by
 refine ⟨by simp [h.1],fun u y hu => ?_⟩
 rw [List.getElem?_set] at hu
 split at hu
 ·subst v
  split at hu
  ·cases hu;exact ⟨hc,h0⟩
  ·cases hu
 ·exact h.2 u y hu
theorem getD_at {l:List Int} {i:Nat} (h:i<l.length):l[i]?=some (l.getD i 0):=by
 rw [List.getD_eq_getElem?_getD,List.getElem?_eq_getElem h];rfl
theorem Dn.rlE (hL:Lab n E L) {l:List Int} (h:Dn n E l) {e:Int × Int} (hm:e∈E) (he:0<=e.1/\e.1<n/\0<=e.2/\e.2<n) :
  Dn n E (rlE l e)/\(∀(v:Nat),(rlE l e).getD v 0<=l.getD v 0) /\
  (l.getD e.1.toNat 0=L.getD e.1.toNat 0->(rlE l e).getD e.2.toNat 0=L.getD e.2.toNat 0) /\
  (l.getD e.2.toNat 0=L.getD e.2.toNat 0->(rlE l e).getD e.1.toNat 0=L.getD e.1.toNat 0):=by
 obtain ⟨h1,h2,h3,h4⟩:=he
 have i1:e.1.toNat<l.length:=by rw [h.1];omega
 have i2:e.2.toNat<l.length:=by rw [h.1];omega
 have j1:e.1.toNat<L.length:=by rw [hL.1];omega
 have j2:e.2.toNat<L.length:=by rw [hL.1];omega
 have c12:Con E (e.1.toNat:Int) (e.2.toNat:Int):=by
  rw [Int.toNat_of_nonneg h1,Int.toNat_of_nonneg h3];exact .of hm
 have hLe:=(hL.iff (getD_at j1) (getD_at j2)).2 c12
 have a1:=h.2 _ _ (getD_at i1)
 have a2:=h.2 _ _ (getD_at i2)
 have g1:=h.ge hL (getD_at i1) (getD_at j1)
 have g2:=h.ge hL (getD_at i2) (getD_at j2)
 have gs:∀(i:Nat) (z:Int) (v:Nat),i<l.length->(l.set i z).getD v 0=if i=v then z else l.getD v 0:=by
  intro i z v hi
  rw [List.getD_eq_getElem?_getD,List.getElem?_set]
  split
  ·subst v;simp
  ·rw [List.getD_eq_getElem?_getD]
 unfold Go.Fw.rlE
 simp only
 by_cases hlt:l.getD e.1.toNat 0<l.getD e.2.toNat 0
 ·rw [if_pos hlt,if_neg (by omega)]
  refine ⟨h.set (c12.symm.trans a1.1) a1.2,fun v => ?_,fun hd => ?_,fun hd => ?_⟩
  ·rw [gs _ _ _ i2]
   split
   ·subst v;omega
   ·exact Int.le_refl _
  ·rw [gs _ _ _ i2,if_pos rfl];omega
  ·omega
 ·rw [if_neg hlt]
  by_cases hgt:l.getD e.2.toNat 0<l.getD e.1.toNat 0
  ·rw [if_pos hgt]
   refine ⟨h.set (c12.trans a2.1) a2.2,fun v => ?_,fun hd => ?_,fun hd => ?_⟩
   ·rw [gs _ _ _ i1]
    split
    ·subst v;omega
    ·exact Int.le_refl _
   ·omega
   ·rw [gs _ _ _ i1,if_pos rfl];omega
  ·rw [if_neg hgt]
   refine ⟨h,fun v=>Int.le_refl _,fun hd => ?_,fun hd => ?_⟩<;>omega
theorem Dn.rnd (hL:Lab n E L) (hE:EIn n E):∀(D:List (Int × Int)) (l:List Int),(∀e,e∈D->e∈E)->Dn n E l ->
  Dn n E (lrnd D l)/\(∀v:Nat,(lrnd D l).getD v 0<=l.getD v 0) /\
  ∀e,e∈D->(l.getD e.1.toNat 0=L.getD e.1.toNat 0->(lrnd D l).getD e.2.toNat 0=L.getD e.2.toNat 0)/\(l.getD e.2.toNat 0=L.getD e.2.toNat 0->(lrnd D l).getD e.1.toNat 0=L.getD e.1.toNat 0)
 | [],l,_,h=>⟨h,fun v=>Int.le_refl _,fun e he=>by cases he⟩
 | e::D,l,hs,h=>by
  have hm:=hs e (List.mem_cons_self ..)
  obtain ⟨h1,h2,h3,h4⟩:=h.rlE hL hm (hE e hm)
  obtain ⟨k1,k2,k3⟩:=Dn.rnd hL hE D (Go.Fw.rlE l e) (fun x hx=>hs x (List.mem_cons_of_mem _ hx)) h1
  -- what is done stays done
  have dn:∀{l':List Int} (v:Nat),v<n->Dn n E l'->(∀u:Nat,l'.getD u 0<=l.getD u 0)->l.getD v 0=L.getD v 0->l'.getD v 0=L.getD v 0:=by
   intro l' v hv hl' hle hd
   have hg:=hl'.ge hL (getD_at (l:=l') (i:=v) (by rw [hl'.1];exact hv)) (getD_at (l:=L) (i:=v) (by rw [hL.1];exact hv))
   have:=hle v
   omega
  have dn':∀(v:Nat),v<n->(Go.Fw.rlE l e).getD v 0=L.getD v 0->(Go.Fw.lrnd D (Go.Fw.rlE l e)).getD v 0=L.getD v 0:=by
   intro v hv hd
   have hg:=k1.ge hL (getD_at (i:=v) (by rw [k1.1];exact hv)) (getD_at (l:=L) (i:=v) (by rw [hL.1];exact hv))
   have:=k2 v
   omega
  refine ⟨k1,fun v=>Int.le_trans (k2 v) (h2 v),fun e' he' => ?_⟩
  rcases List.mem_cons.1 he' with rfl|he'
  ·have hb:=hE _ hm
   exact ⟨fun hd=>dn' _ (by omega) (h3 hd),fun hd=>dn' _ (by omega) (h4 hd)⟩
  ·have hb:=hE _ (hs e' (List.mem_cons_of_mem _ he'))
   exact ⟨fun hd=>(k3 e' he').1 (dn _ (by omega) h1 h2 hd),fun hd=>(k3 e' he').2 (dn _ (by omega) h1 h2 hd)⟩
def cntD (n:Nat) (L l:List Int):Nat:=(List.range n).countP fun v=>decide (l.getD v 0=L.getD v 0)
theorem countP_lt {p q:Nat->Bool}:∀{m:List Nat},(∀x,x∈m->p x=true->q x=true)->(∃x,x∈m/\p x=false/\q x=true)->m.countP p<m.countP q
 | [],_,⟨x,hx,_⟩=>by cases hx
 | a::m,h,⟨x,hx,hp,hq⟩=>by
  rw [List.countP_cons,List.countP_cons]
  have hle:m.countP p<=m.countP q:=List.countP_mono_left fun y hy=>h y (List.mem_cons_of_mem _ hy)
  rcases List.mem_cons.1 hx with rfl|hx
  ·rw [if_neg (by simp [hp]),if_pos hq];omega
  ·have:=countP_lt (fun y hy=>h y (List.mem_cons_of_mem _ hy)) ⟨x,hx,hp,hq⟩
   have ha:=h a (List.mem_cons_self ..)
   cases hpa:p a with
   | true=>rw [ha hpa];simp;omega
   | false=>cases hqa:q a<;>simp<;>omega
theorem con_step {D:Int->Prop} {u v:Int} (h:Con E u v) (hu:D u) (hv:¬D v):∃x y:Int,D x/\¬D y/\((x,y)∈E\/(y,x)∈E):=by
 induction h with
 | refl=>exact absurd hu hv
 | @fwd a b _ he ih=>
  by_cases hb:D a
  ·exact ⟨_,_,hb,hv,.inl he⟩
  ·exact ih hb
 | @bwd a b _ he ih=>
  by_cases hb:D a
  ·exact ⟨_,_,hb,hv,.inr he⟩
  ·exact ih hb
def lrnds (E:List (Int × Int)):Nat->List Int->List Int
 | 0,l=>l
 | k+1,l=>lrnds E k (Go.Fw.lrnd E l)
theorem lrnd_more (hL:Lab n E L) (hE:EIn n E) {l:List Int} (h:Dn n E l) (hs:∀v:Nat,v<n->L.getD v 0=v->l.getD v 0=v) (hne:l≠L) :
  cntD n L l<cntD n L (Go.Fw.lrnd E l):=by
 obtain ⟨k1,k2,k3⟩:=Dn.rnd hL hE E l (fun _ h=>h) h
 have stay:∀v:Nat,v<n->l.getD v 0=L.getD v 0->(Go.Fw.lrnd E l).getD v 0=L.getD v 0:=by
  intro v hv hd
  have hg:=k1.ge hL (getD_at (i:=v) (by rw [k1.1];exact hv)) (getD_at (l:=L) (i:=v) (by rw [hL.1];exact hv))
  have:=k2 v
  omega
 have:∃v:Nat,v<n/\l.getD v 0≠L.getD v 0:=by
  apply Classical.byContradiction
  intro hn
  apply hne
  apply List.ext_getElem?
  intro i
  by_cases hi:i<n
  ·rw [getD_at (l:=l) (i:=i) (by rw [h.1];exact hi),getD_at (l:=L) (i:=i) (by rw [hL.1];exact hi)]
   congr 1
   exact Classical.byContradiction fun hc=>hn ⟨i,hi,hc⟩
  ·rw [List.getElem?_eq_none (by rw [h.1];omega),List.getElem?_eq_none (by rw [hL.1];omega)]
 obtain ⟨v,hv,hnd⟩:=this
 have gL:=getD_at (l:=L) (i:=v) (by rw [hL.1];exact hv)
 have hm:=hL.lt gL
 have hself:=hL.self gL
 have hcon:=(hL.2 v _ gL).1
 obtain ⟨x,y,hx,hy,he⟩:=con_step (D:=fun z:Int=>0<=z/\z<n/\l.getD z.toNat 0=L.getD z.toNat 0) hcon.symm
  ⟨hm.1,hm.2,by
   have e1:L.getD (L.getD v 0).toNat 0=L.getD v 0:=by rw [List.getD_eq_getElem?_getD (i:=(L.getD v 0).toNat),hself];rfl
   rw [e1,hs (L.getD v 0).toNat (by omega) (by rw [e1];omega)];omega⟩
  (fun hd=>hnd (by simpa using hd.2.2))
 refine countP_lt (fun z hz hp => ?_) ⟨y.toNat,?_,?_,?_⟩
 ·simp only [decide_eq_true_eq] at hp ⊢
  exact stay z (List.mem_range.1 hz) hp
 ·rw [List.mem_range]
  rcases he with he|he<;>have:=hE _ he<;>simp only at this<;>omega
 ·simp only [decide_eq_false_iff_not]
  intro hd
  apply hy
  rcases he with he|he<;>have:=hE _ he<;>simp only at this<;>exact ⟨by omega,by omega,hd⟩
 ·simp only [decide_eq_true_eq]
  rcases he with he|he
  ·exact (k3 _ he).1 hx.2.2
  ·exact (k3 _ he).2 hx.2.2
theorem lrnds_end (hL:Lab n E L) (hE:EIn n E):∀(k:Nat) (l:List Int),Dn n E l->(∀v:Nat,v<n->L.getD v 0=v->l.getD v 0=v)->n<=cntD n L l+k->lrnds E k l=L
 | 0,l,h,hs,hc=>by
  have hall:cntD n L l=n:=by
   have:cntD n L l<=(List.range n).length:=List.countP_le_length
   rw [List.length_range] at this;omega
  apply Classical.byContradiction
  intro hne
  have:=lrnd_more hL hE h hs hne
  have:cntD n L (Go.Fw.lrnd E l)<=(List.range n).length:=List.countP_le_length
  rw [List.length_range] at this
  omega
 | k+1,l,h,hs,hc=>by
  obtain ⟨k1,k2,_⟩:=Dn.rnd hL hE E l (fun _ h=>h) h
  refine lrnds_end hL hE k (Go.Fw.lrnd E l) k1 (fun v hv e => ?_) ?_
  ·have hg:=k1.ge hL (getD_at (i:=v) (by rw [k1.1];exact hv)) (getD_at (l:=L) (i:=v) (by rw [hL.1];exact hv))
   have:=k2 v
   have:=hs v hv e
   omega
  ·by_cases hne:l=L
   ·subst hne
    have:cntD n l (Go.Fw.lrnd E l)=n:=by
     unfold cntD
     rw [show n=(List.range n).length from by simp,<-List.length_range (n:=n),List.countP_eq_length.2]
     ·simp
     ·intro v hv
      simp only [List.length_range,List.mem_range] at hv
      simp only [decide_eq_true_eq]
      have hg:=k1.ge hL (getD_at (i:=v) (by rw [k1.1];exact hv)) (getD_at (l:=l) (i:=v) (by rw [hL.1];exact hv))
      have:=k2 v
      omega
    omega
   ·have:=lrnd_more hL hE h hs hne
    omega
theorem lrnds_labs (hE:EIn n E):lrnds E n (lab0 n)=labs n E:=by
 refine lrnds_end (labs_ok hE) hE n (lab0 n) ⟨lab0_len n,fun v x h => ?_⟩ (fun v hv e => ?_) (by omega)
 ·obtain ⟨_,rfl⟩:=lab0_get h
  exact ⟨.refl _,Int.natCast_nonneg v⟩
 ·have:=getD_at (l:=lab0 n) (i:=v) (by rw [lab0_len];exact hv)
  exact (lab0_get this).2
end
theorem h_sl01In (a b c:Int):g_sl01In (a,b,c)=some (decide (b<=a)&&decide (a<=c),()):=by
 show f_sl01In BIG _=_
 rw [e_sl01In]
 cases decide (b<=a)<;>rfl
theorem h_iin (a b c:Int):g_iin (a,b,c)=some (decide (b<=a)&&decide (a<=c),()):=by
 show f_iin BIG _=_
 rw [e_iin]
 cases decide (b<=a)<;>rfl
abbrev Ed:=Int × Int
theorem foldl_filter {α:Type} (p:α->Bool):∀(l:List α) (s:List α),l.foldl (fun s y=>if p y then s++[y] else s) s=s++l.filter p
 | [],s=>by simp
 | y::l,s=>by
  rw [List.foldl_cons,foldl_filter p l]
  cases h:p y<;>simp [h]
abbrev Sd:=Int × Int × Int × Int × Int × Int
def inB (a b c:Int):Bool:=decide (b<=a)&&decide (a<=c)
theorem h_sl01In' (a b c:Int):g_sl01In (a,b,c)=some (inB a b c,()):=h_sl01In a b c
theorem h_iin' (a b c:Int):g_iin (a,b,c)=some (inB a b c,()):=h_iin a b c
theorem inB_t {a b c:Int}:inB a b c=true↔b<=a/\a<=c:=by simp [inB]
def edB (n:Int) (e:Ed):Bool:=inB n 1 12&&(inB e.1 0 (n-1)&&(inB e.2 0 (n-1)&&decide (e.1<e.2)))
theorem h_iEdgeOk (n:Int) (e:Ed):g_iEdgeOk (n,e)=some (edB n e,()):=by
 show f_iEdgeOk BIG _=_
 rw [e_iEdgeOk,h_iin',Option.bind_some]
 unfold edB
 cases h:inB n 1 12 with
 | false=>rfl
 | true=>
  have:=inB_t.1 h
  rw [wr (by omega) (by omega)]
  simp only [h_iin',Option.bind_some,cond_true,Bool.true_and]
  cases inB e.1 0 (n-1)<;>cases inB e.2 0 (n-1)<;>rfl
theorem h_sEdgeOk (n:Int) (e:Ed):g_sEdgeOk (n,e)=some (edB n e,()):=by
 show f_sEdgeOk BIG _=_
 rw [e_sEdgeOk,h_sl01In',Option.bind_some]
 unfold edB
 cases h:inB n 1 12 with
 | false=>rfl
 | true=>
  have:=inB_t.1 h
  rw [wr (by omega) (by omega)]
  simp only [h_sl01In',Option.bind_some,cond_true,Bool.true_and]
  cases inB e.1 0 (n-1)<;>cases inB e.2 0 (n-1)<;>rfl
def lsB (x y:Ed):Bool:=decide (x.1<y.1) || (decide (x.1=y.1)&&decide (x.2<y.2))
theorem h_iahead (x y:Ed):g_iahead (x,y)=some (lsB x y,()):=by
 show f_iahead BIG _=_
 rw [e_iahead]
 unfold lsB
 cases decide (x.1<y.1)<;>cases decide (x.1=y.1)<;>rfl
theorem h_sl05Less (x y:Ed):g_sl05Less (x,y)=some (lsB x y,()):=by
 show f_sl05Less BIG _=_
 rw [e_sl05Less]
 unfold lsB
 cases decide (x.1<y.1)<;>cases decide (x.1=y.1)<;>rfl
def eP (n:Int) (es:List Ed) (i:Nat):Bool:=match es[i]? with
 | some y=>edB n y&&(match i with
  | 0=>true
  | j+1=>match es[j]? with
   | some x=>lsB x y
   | none=>false)
 | none=>false
theorem eP_0 {n:Int} {es:List Ed} {y:Ed} (h:es[0]?=some y):eP n es 0=edB n y:=by
 unfold eP;rw [h];simp
theorem eP_s {n:Int} {es:List Ed} {x y:Ed} {j:Nat} (h:es[j+1]?=some y) (h':es[j]?=some x):eP n es (j+1)=(edB n y&&lsB x y):=by
 unfold eP;rw [h];simp only [h']
def eOk (n:Int) (es:List Ed):Bool:=if ∀i,i<es.length->eP n es i=true then decide ((es.length:Int)<=66) else false
theorem eOk_len {n:Int} {es:List Ed} (h:eOk n es=true):es.length<=66:=by
 unfold eOk at h
 split at h
 ·rw [decide_eq_true_eq] at h;omega
 ·cases h
theorem h_iedgesOk (n:Int) (es:List Ed) (hl:es.length<=1048576):g_iedgesOk (n,es)=some (eOk n es,()):=by
 have hm:maxLen=9223372036854775807:=by decide
 show f_iedgesOk BIG _=_
 rw [e_iedgesOk,allLoop es (by omega) (eP n es) false]
 ·unfold eOk
  split<;>rfl
 ·intro self i y hy
  have hi:=(List.getElem?_eq_some_iff.1 hy).1
  simp only [show ((i:Int)<(es.length:Int)) from by omega,decide_true,cond_true]
  rw [bnd_nat hi,hy,Option.bind_some,h_iEdgeOk,wr1 (by omega)]
  cases i with
  | zero=>
   rw [eP_0 hy]
   cases edB n y<;>simp
  | succ j=>
   have hj:es[j]?=some (es[j]'(by omega)):=List.getElem?_eq_getElem (by omega)
   rw [eP_s hy hj,show (((j+1:Nat):Int)-1)=(j:Int) from by omega,wr (n:=(j:Int)) (by omega) (by omega)]
   cases hb:edB n y with
   | false=>simp
   | true=>
    simp only [Option.bind_some,Bool.not_true,cond_false,show (0:Int)<((j+1:Nat):Int) from by omega,decide_true,cond_true,Bool.true_and]
    rw [bnd_nat (by omega),hj]
    simp only [Option.bind_some]
    simp only [Option.bind_some,h_iahead]
    cases lsB _ y<;>rfl
 ·intro self
  simp
theorem h_sl05Edges (n:Int) (es:List Ed) (hl:es.length<=1048576):g_sl05Edges (n,es)=some (eOk n es,()):=by
 have hm:maxLen=9223372036854775807:=by decide
 show f_sl05Edges BIG _=_
 rw [e_sl05Edges,allLoop es (by omega) (eP n es) false]
 ·unfold eOk
  split<;>rfl
 ·intro self i y hy
  have hi:=(List.getElem?_eq_some_iff.1 hy).1
  simp only [show ((i:Int)<(es.length:Int)) from by omega,decide_true,cond_true]
  rw [bnd_nat hi,hy,Option.bind_some,h_sEdgeOk,wr1 (by omega)]
  cases i with
  | zero=>
   rw [eP_0 hy]
   cases edB n y<;>simp
  | succ j=>
   have hj:es[j]?=some (es[j]'(by omega)):=List.getElem?_eq_getElem (by omega)
   rw [eP_s hy hj,show (((j+1:Nat):Int)-1)=(j:Int) from by omega,wr (n:=(j:Int)) (by omega) (by omega)]
   cases hb:edB n y with
   | false=>simp
   | true=>
    simp only [Option.bind_some,Bool.not_true,cond_false,show (0:Int)<((j+1:Nat):Int) from by omega,decide_true,cond_true,Bool.true_and]
    rw [bnd_nat (by omega),hj]
    simp only [Option.bind_some]
    rw [bnd_nat hi,hy]
    simp only [Option.bind_some,h_sl05Less]
    cases lsB _ y<;>rfl
 ·intro self
  simp
abbrev Or':=Int × Int × List (Int × Int) × Int
def ordB (n:Int) (o:Or'):Bool:=inB n 1 12&&(inB o.1 1 100000&&(inB o.2.1 1 4&&(eOk n o.2.2.1&&(if o.2.1=3 then decide (o.2.2.1.length=0)&&inB o.2.2.2 0 (n-1) else if o.2.1=4 then decide (0<o.2.2.1.length)&&decide (o.2.2.2=0) else decide (o.2.2.1.length=1)&&decide (o.2.2.2=0)))))
theorem h_sOrderOk (n:Int) (o:Or') (hl:o.2.2.1.length<=1048576):g_sOrderOk (n,o)=some (ordB n o,()):=by
 show f_sOrderOk BIG _=_
 rw [e_sOrderOk]
 simp only [h_sl01In',h_sl05Edges n _ hl,Option.bind_some]
 unfold ordB
 cases h:inB n 1 12 with
 | false=>rfl
 | true=>
  have:=inB_t.1 h
  rw [wr (by omega) (by omega)]
  cases h1:inB o.1 1 100000 with
  | false=>rfl
  | true=>
   cases h2:inB o.2.1 1 4 with
   | false=>rfl
   | true=>
    cases h3:eOk n o.2.2.1 with
    | false=>rfl
    | true=>
     simp only [Bool.not_true,cond_false,Option.bind_some,Bool.true_and]
     by_cases k3:o.2.1=3
     ·rw [if_pos k3,decide_eq_true k3,cond_true]
      by_cases hz:o.2.2.1.length=0
      ·rw [decide_eq_true hz,decide_eq_true (by omega)];rfl
      ·rw [decide_eq_false hz,decide_eq_false (by omega)];rfl
     ·rw [if_neg k3,decide_eq_false k3,cond_false]
      by_cases k4:o.2.1=4
      ·rw [if_pos k4,decide_eq_true k4,cond_true]
       by_cases hz:0<o.2.2.1.length
       ·rw [decide_eq_true hz,decide_eq_true (by omega)];rfl
       ·rw [decide_eq_false hz,decide_eq_false (by omega)];rfl
      ·rw [if_neg k4,decide_eq_false k4,cond_false]
       by_cases hz:o.2.2.1.length=1
       ·rw [decide_eq_true hz,decide_eq_true (by omega)];rfl
       ·rw [decide_eq_false hz,decide_eq_false (by omega)];rfl
theorem h_iOrderOk (n:Int) (o:Or') (hl:o.2.2.1.length<=1048576):g_iOrderOk (n,o)=some (ordB n o,()):=by
 show f_iOrderOk BIG _=_
 rw [e_iOrderOk]
 simp only [h_iin',h_iedgesOk n _ hl,Option.bind_some]
 unfold ordB
 cases h:inB n 1 12 with
 | false=>rfl
 | true=>
  have:=inB_t.1 h
  rw [wr (by omega) (by omega)]
  cases h1:inB o.1 1 100000 with
  | false=>rfl
  | true=>
   cases h3:eOk n o.2.2.1 with
   | false=>simp
   | true=>
    simp only [Bool.not_true,cond_false,Option.bind_some,Bool.true_and]
    by_cases k3:o.2.1=3
    ·have h2:inB o.2.1 1 4=true:=inB_t.2 (by omega)
     rw [h2,if_pos k3,decide_eq_true k3]
     rw [decide_eq_false (by omega:¬o.2.1=1),decide_eq_false (by omega:¬o.2.1=2)]
     by_cases hz:o.2.2.1.length=0
     ·rw [decide_eq_true hz,decide_eq_true (show (o.2.2.1.length:Int)=0 from by omega)];by_cases hv:o.2.2.2=0<;>simp [hv]
     ·rw [decide_eq_false hz,decide_eq_false (show ¬(o.2.2.1.length:Int)=0 from by omega)];by_cases hv:o.2.2.2=0<;>simp [hv]
    ·rw [if_neg k3,decide_eq_false k3]
     by_cases hv:o.2.2.2=0
     ·simp only [hv,decide_true,Bool.not_true,cond_false,Option.bind_some,Bool.and_true]
      by_cases k4:o.2.1=4
      ·have h2:inB o.2.1 1 4=true:=inB_t.2 (by omega)
       rw [h2,if_pos k4,decide_eq_true k4,decide_eq_false (by omega:¬o.2.1=1),decide_eq_false (by omega:¬o.2.1=2)]
       simp
      ·rw [if_neg k4,decide_eq_false k4]
       by_cases k1:o.2.1=1
       ·have h2:inB o.2.1 1 4=true:=inB_t.2 (by omega)
        rw [h2,decide_eq_true k1]
        simp
        omega
       ·by_cases k2:o.2.1=2
        ·have h2:inB o.2.1 1 4=true:=inB_t.2 (by omega)
         rw [h2,decide_eq_false k1,decide_eq_true k2]
         simp
         omega
        ·have h2:inB o.2.1 1 4=false:=by
          cases hh:inB o.2.1 1 4 with
          | false=>rfl
          | true=>have:=inB_t.1 hh;omega
         rw [h2,decide_eq_false k1,decide_eq_false k2]
         rfl
     ·simp [hv]
def lbP (l:List Int) (i:Nat):Bool:=match l[i]? with
 | some y=>inB y 0 i&&(match l[y.toNat]? with
  | some z=>decide (z=y)
  | none=>false)
 | none=>false
theorem lbP_eq {l:List Int} {i:Nat} {y z:Int} (h:l[i]?=some y) (h':l[y.toNat]?=some z):lbP l i=(inB y 0 i&&decide (z=y)):=by
 unfold lbP;rw [h];simp only [h']
theorem lbP_f {l:List Int} {i:Nat} {y:Int} (h:l[i]?=some y) (h':inB y 0 i=false):lbP l i=false:=by
 unfold lbP;rw [h];simp only [h',Bool.false_and]
def lbOk (n:Int) (l:List Int):Bool:=if (l.length:Int)=n then (if ∀i,i<l.length->lbP l i=true then true else false) else false
theorem h_ilabelsOk (n:Int) (l:List Int) (hl:l.length<=1048576):g_ilabelsOk (n,l)=some (lbOk n l,()):=by
 have hm:maxLen=9223372036854775807:=by decide
 show f_ilabelsOk BIG _=_
 rw [e_ilabelsOk]
 unfold lbOk
 by_cases hn:(l.length:Int)=n
 ·rw [if_pos hn,decide_eq_true hn,Bool.not_true,cond_false,allLoop l (by omega) (lbP l) false]
  ·split<;>rfl
  ·intro self i y hy
   have hi:=(List.getElem?_eq_some_iff.1 hy).1
   simp only [show ((i:Int)<(l.length:Int)) from by omega,decide_true,cond_true]
   rw [bnd_nat hi,hy,Option.bind_some,h_iin',wr1 (by omega)]
   cases hb:inB y 0 (i:Int) with
   | false=>rw [lbP_f hy hb];simp
   | true=>
    have:=inB_t.1 hb
    have hz:l[y.toNat]?=some (l[y.toNat]'(by omega)):=List.getElem?_eq_getElem (by omega)
    rw [lbP_eq hy hz,hb]
    simp only [Option.bind_some,Bool.not_true,cond_false,Bool.true_and]
    rw [bnd_ok (by omega) (by omega),hz]
    simp only [Option.bind_some]
    by_cases hd:l[y.toNat]'(by omega)=y<;>simp [hd]
  ·intro self
   simp
 ·rw [if_neg hn,decide_eq_false hn];rfl
theorem h_sl09Labels (n:Int) (l:List Int) (hl:l.length<=1048576):g_sl09Labels (n,l)=some (lbOk n l,()):=by
 have hm:maxLen=9223372036854775807:=by decide
 show f_sl09Labels BIG _=_
 rw [e_sl09Labels]
 unfold lbOk
 by_cases hn:(l.length:Int)=n
 ·rw [if_pos hn,decide_eq_true hn,Bool.not_true,cond_false]
  subst hn
  rw [allLoop l (by omega) (lbP l) false]
  ·split<;>rfl
  ·intro self i y hy
   have hi:=(List.getElem?_eq_some_iff.1 hy).1
   simp only [show ((i:Int)<(l.length:Int)) from by omega,decide_true,cond_true]
   simp only [bnd_nat hi,hy,Option.bind_some,h_sl01In',wr1 (show i<maxLen from by omega)]
   cases hb:inB y 0 (i:Int) with
   | false=>rw [lbP_f hy hb];simp
   | true=>
    have:=inB_t.1 hb
    have hz:l[y.toNat]?=some (l[y.toNat]'(by omega)):=List.getElem?_eq_getElem (by omega)
    rw [lbP_eq hy hz,hb]
    simp only [Option.bind_some,Bool.not_true,cond_false,Bool.true_and]
    rw [bnd_ok (by omega) (by omega),hz]
    simp only [Option.bind_some]
    by_cases hd:l[y.toNat]'(by omega)=y<;>simp [hd]
  ·intro self
   simp
 ·rw [if_neg hn,decide_eq_false hn];rfl
abbrev An:=Int × Bool × List (Int × Int) × List Int
def ansB (n:Int) (o:An):Bool:=inB n 1 12&&(inB o.1 1 100000&&(eOk n o.2.2.1&&lbOk n o.2.2.2))
theorem h_iAnswerOk (n:Int) (o:An) (hl:o.2.2.1.length<=1048576) (hl':o.2.2.2.length<=1048576):g_iAnswerOk (n,o)=some (ansB n o,()):=by
 show f_iAnswerOk BIG _=_
 rw [e_iAnswerOk]
 simp only [h_iin',h_iedgesOk n _ hl,h_ilabelsOk n _ hl',Option.bind_some]
 unfold ansB
 cases inB n 1 12<;>cases inB o.1 1 100000<;>cases eOk n o.2.2.1<;>rfl
theorem h_sAnswerOk (n:Int) (o:An) (hl:o.2.2.1.length<=1048576) (hl':o.2.2.2.length<=1048576):g_sAnswerOk (n,o)=some (ansB n o,()):=by
 show f_sAnswerOk BIG _=_
 rw [e_sAnswerOk]
 simp only [h_sl01In',h_sl05Edges n _ hl,h_sl09Labels n _ hl',Option.bind_some]
 unfold ansB
 cases inB n 1 12<;>cases inB o.1 1 100000<;>cases eOk n o.2.2.1<;>rfl
theorem lsB_irrefl (x:Ed):lsB x x=false:=by simp [lsB]
theorem lsB_iff (x y:Ed):lsB x y=true↔x.1<y.1\/(x.1=y.1/\x.2<y.2):=by simp [lsB]
theorem lsB_trans {x y z:Ed} (h:lsB x y=true) (h':lsB y z=true):lsB x z=true:=by
 rw [lsB_iff] at *;omega
theorem lsB_tri {x y:Ed} (h:lsB x y=false) (h':lsB y x=false):x=y:=by
 have h1:¬lsB x y=true:=by simp [h]
 have h2:¬lsB y x=true:=by simp [h']
 rw [lsB_iff] at h1 h2
 exact Prod.ext (by omega) (by omega)
theorem lsB_asymm {x y:Ed} (h:lsB x y=true):lsB y x=false:=by
 cases h':lsB y x with
 | false=>rfl
 | true=>have:=lsB_trans h h';rw [lsB_irrefl] at this;cases this
abbrev Srt (l:List Ed):Prop:=l.Pairwise (fun x y=>lsB x y=true)
theorem srt_eq:∀{a b:List Ed},Srt a->Srt b->(∀x,x∈a↔x∈b)->a=b
 | [],[],_,_,_=>rfl
 | [],y::b,_,_,h=>absurd ((h y).2 (by simp)) (by simp)
 | x::a,[],_,_,h=>absurd ((h x).1 (by simp)) (by simp)
 | x::a,y::b,ha,hb,h=>by
  rw [Srt,List.pairwise_cons] at ha hb
  have hxy:x=y:=by
   have h1:=(h x).1 (by simp)
   have h2:=(h y).2 (by simp)
   rcases List.mem_cons.1 h1 with h1|h1
   ·exact h1
   ·rcases List.mem_cons.1 h2 with h2|h2
    ·exact h2.symm
    ·have k1:=hb.1 x h1
     have k2:=ha.1 y h2
     rw [lsB_asymm k1] at k2;cases k2
  subst hxy
  congr 1
  refine srt_eq ha.2 hb.2 fun z=>⟨fun hz => ?_,fun hz => ?_⟩
  ·rcases List.mem_cons.1 ((h z).1 (by simp [hz])) with h1|h1
   ·subst h1;have:=ha.1 z hz;rw [lsB_irrefl] at this;cases this
   ·exact h1
  ·rcases List.mem_cons.1 ((h z).2 (by simp [hz])) with h1|h1
   ·subst h1;have:=hb.1 z hz;rw [lsB_irrefl] at this;cases this
   ·exact h1
def ins (l:List Ed) (e:Ed):List Ed:=l.filter (fun y=>lsB y e)++[e]++l.filter (fun y=>lsB e y)
theorem ins_mem {l:List Ed} {e x:Ed}:x∈ins l e↔x=e\/x∈l:=by
 simp only [ins,List.mem_append,List.mem_filter,List.mem_singleton]
 constructor
 ·rintro ((h|h)|h)
  ·exact .inr h.1
  ·exact .inl h
  ·exact .inr h.1
 ·rintro (h|h)
  ·exact .inl (.inr h)
  ·cases h1:lsB x e with
   | true=>exact .inl (.inl ⟨h,rfl⟩)
   | false=>
    cases h2:lsB e x with
    | true=>exact .inr ⟨h,rfl⟩
    | false=>exact .inl (.inr (lsB_tri h1 h2))
theorem ins_srt {l:List Ed} {e:Ed} (h:Srt l):Srt (ins l e):=by
 simp only [ins,Srt,List.append_assoc,List.pairwise_append,List.singleton_append,List.pairwise_cons]
 refine ⟨h.filter _,⟨fun y hy=>(List.mem_filter.1 hy).2,h.filter _⟩,fun x hx y hy => ?_⟩
 have h1:=(List.mem_filter.1 hx).2
 rcases List.mem_cons.1 hy with hy|hy
 ·subst hy;exact h1
 ·exact lsB_trans h1 (List.mem_filter.1 hy).2
theorem filter_two_len (e:Ed):∀l:List Ed,(l.filter (fun y=>lsB y e)).length+(l.filter (fun y=>lsB e y)).length<=l.length
 | []=>by simp
 | y::l=>by
  have:=filter_two_len e l
  simp only [List.filter_cons]
  cases h1:lsB y e<;>cases h2:lsB e y<;>simp
  ·omega
  ·omega
  ·omega
  ·rw [lsB_asymm h1] at h2;cases h2
theorem ins_len (l:List Ed) (e:Ed):(ins l e).length<=l.length+1:=by
 have:=filter_two_len e l
 simp only [ins,List.length_append,List.length_singleton]
 omega
def fdI:List Ed->Ed->Nat
 | [],_=>0
 | y::l,e=>if lsB y e then fdI l e+1 else 0
theorem fdI_ins {l:List Ed} {e:Ed} (h:Srt l) (hne:e∉l):l.take (fdI l e)++[e]++l.drop (fdI l e)=ins l e:=by
 induction l with
 | nil=>rfl
 | cons y l ih=>
  rw [Srt,List.pairwise_cons] at h
  have ih:=ih h.2 (fun hh=>hne (by simp [hh]))
  cases h1:lsB y e with
  | true=>
   have h2:=lsB_asymm h1
   simp only [fdI,h1,if_true,List.take_succ_cons,List.drop_succ_cons,List.cons_append,ih]
   simp only [ins,List.filter_cons,h1,h2,if_true,List.cons_append]
   simp
  | false=>
   have h2:lsB e y=true:=by
    cases h2:lsB e y with
    | true=>rfl
    | false=>exact absurd (lsB_tri h1 h2).symm (fun hh=>hne (by simp [hh]))
   have h3:∀z,z∈l->lsB z e=false/\lsB e z=true:=fun z hz=>by
    have:=lsB_trans h2 (h.1 z hz)
    exact ⟨lsB_asymm this,this⟩
   have f1:l.filter (fun y=>lsB y e)=[]:=by
    rw [List.filter_eq_nil_iff];intro z hz;simp [(h3 z hz).1]
   have f2:l.filter (fun y=>lsB e y)=l:=by
    rw [List.filter_eq_self];intro z hz;exact (h3 z hz).2
   simp only [fdI,h1,ins,List.filter_cons,h2,if_true,f1,f2]
   simp
theorem h_sl05Has (l:List Ed) (e:Ed) (hl:l.length<=maxLen):g_sl05Has (l,e)=some (decide (e∈l),()):=by
 show f_sl05Has BIG _=_
 rw [e_sl05Has,allLoop l (Nat.lt_of_le_of_lt hl maxLen_lt) (fun i=>decide (l[i]?≠some e)) true (fun self i y hy=>by
   have hi:=(List.getElem?_eq_some_iff.1 hy).1
   simp only [show ((i:Int)<(l.length:Int)) from by omega,decide_true,cond_true]
   rw [bnd_nat hi,hy,Option.bind_some,wr1 (by omega)]
   obtain ⟨y1,y2⟩:=y
   obtain ⟨e1,e2⟩:=e
   by_cases h1:y1=e1<;>by_cases h2:y2=e2<;>simp [h1,h2]) (fun self=>by simp)]
 by_cases h:e∈l
 ·rw [if_neg,decide_eq_true h]
  ·rfl
  ·intro hh
   obtain ⟨i,hi⟩:=List.getElem?_of_mem h
   have:=hh i (List.getElem?_eq_some_iff.1 hi).1
   rw [decide_eq_true_eq] at this
   exact this hi
 ·rw [if_pos,decide_eq_false h]
  ·rfl
  ·intro i hi
   rw [decide_eq_true_eq]
   exact fun hh=>h (List.mem_of_getElem? hh)
theorem h_ihasEdge (l:List Ed) (e:Ed) (hl:l.length<=maxLen):g_ihasEdge (l,e)=some (decide (e∈l),()):=by
 rw [<-h_sl05Has l e hl]
 show f_ihasEdge BIG _=f_sl05Has BIG _
 rw [e_ihasEdge,e_sl05Has]
 all_goals rfl
theorem h_sl05Put (l:List Ed) (e:Ed) (hl:l.length<=1048576):g_sl05Put (l,e)=some (ins l e,()):=by
 have hm:maxLen=9223372036854775807:=by decide
 show f_sl05Put BIG _=_
 rw [e_sl05Put,foldLoop l (by omega) (fun i (c:List Ed)=>c.length<=i) (fun c y=>if lsB y e then c++[y] else c) id (by simp) (fun i c y _ (h:c.length<=i)=>by show List.length (if _ then _ else _)<=_;split<;>(try simp)<;>omega)]
 ·rw [foldl_filter]
  simp only [id,List.nil_append,Option.bind_some]
  have h1:=List.length_filter_le (fun y=>lsB y e) l
  rw [decide_eq_true (by simp;omega),cond_true,foldLoop l (by omega) (fun i (c:List Ed)=>c.length<=l.length+1+i) (fun c y=>if lsB e y then c++[y] else c) id (by simp;omega) (fun i c y _ (h:c.length<=_)=>by show List.length (if _ then _ else _)<=_;split<;>(try simp)<;>omega)]
  ·rw [foldl_filter];rfl
  ·intro self c i y hy (hc:c.length<=_)
   have hi:=(List.getElem?_eq_some_iff.1 hy).1
   simp only [show ((i:Int)<(l.length:Int)) from by omega,decide_true,cond_true]
   simp only [bnd_nat hi,hy,Option.bind_some,h_sl05Less,wr1 (show i<maxLen from by omega)]
   cases lsB e y with
   | false=>simp
   | true=>simp [show c.length+1<=4294967296 from by omega]
  ·intro self c hc
   simp
 ·intro self c i y hy (hc:c.length<=i)
  have hi:=(List.getElem?_eq_some_iff.1 hy).1
  simp only [show ((i:Int)<(l.length:Int)) from by omega,decide_true,cond_true]
  simp only [bnd_nat hi,hy,Option.bind_some,h_sl05Less,wr1 (show i<maxLen from by omega)]
  cases lsB y e with
  | false=>simp
  | true=>simp [show c.length+1<=4294967296 from by omega]
 ·intro self c hc
  simp
theorem fdI_le:∀(l:List Ed) (e:Ed),fdI l e<=l.length
 | [],_=>by simp [fdI]
 | y::l,e=>by
  have:=fdI_le l e
  simp only [fdI,List.length_cons]
  split<;>omega
theorem fdI_at:∀{l:List Ed} {e y:Ed} {i:Nat},i<=fdI l e->l[i]?=some y->lsB y e=decide (i<fdI l e)
 | [],_,_,_,_,hy=>by simp at hy
 | z::l,e,y,i,hi,hy=>by
  cases hz:lsB z e with
  | false=>
   simp only [fdI,hz] at hi ⊢
   have:i=0:=by simpa using hi
   subst this
   simp only [List.getElem?_cons_zero,Option.some.injEq] at hy
   subst hy
   simp [hz]
  | true=>
   simp only [fdI,hz,if_true] at hi ⊢
   cases i with
   | zero=>
    simp only [List.getElem?_cons_zero,Option.some.injEq] at hy
    subst hy
    simp [hz]
   | succ i=>
    simp only [List.getElem?_cons_succ] at hy
    rw [fdI_at (by omega) hy]
    simp
theorem h_iwithEdge (l:List Ed) (e:Ed) (hl:l.length<=1048576):g_iwithEdge (l,e)=some (l.take (fdI l e)++[e]++l.drop (fdI l e),()):=by
 have hm:maxLen=9223372036854775807:=by decide
 have hle:=fdI_le l e
 show f_iwithEdge BIG _=_
 rw [e_iwithEdge,loop_eq (fun (x:Int)=>∃i:Nat,x=i/\i<=fdI l e) (fun (x:Int)=>l.length-x.toNat) (fun _=>((fdI l e:Nat):Int)) (fun self x ⟨i,h1,h2⟩ hs=>by
  subst h1
  by_cases hi:i<l.length
  ·have hy:=List.getElem?_eq_getElem hi
   have hat:=fdI_at h2 hy
   simp only [show ((i:Int)<(l.length:Int)) from by omega,decide_true,cond_true]
   simp only [bnd_nat hi,hy,Option.bind_some,h_iahead,wr1 (show i<maxLen from by omega),hat]
   by_cases hlt:i<fdI l e
   ·rw [decide_eq_true hlt,cond_true]
    exact hs _ ⟨i+1,rfl,hlt⟩ (by simp;omega)
   ·rw [decide_eq_false hlt,cond_false]
    have:i=fdI l e:=by omega
    rw [<-this]
  ·have:i=l.length:=by omega
   have h3:fdI l e=i:=by omega
   rw [h3,this]
   simp) (n:=BIG) (x:=0) (by simp [BIG];omega) ⟨0,rfl,by omega⟩]
 simp only [Option.bind_some,Int.toNat_natCast,Nat.sub_zero,List.drop_zero]
 rw [decide_eq_true (by omega),cond_true,decide_eq_true (by omega),cond_true,decide_eq_true (by simp;omega),cond_true,decide_eq_true (by simp;omega),cond_true,cond_true,decide_eq_true (by omega),cond_true,decide_eq_true (by simp;omega),cond_true]
 congr 3
 rw [List.take_of_length_le]
 simp
def fM {S α:Type} (st:S->α->Option S):S->List α->Option S
 | s,[]=>some s
 | s,y::l=>(st s y).bind fun s'=>fM st s' l
theorem and255 (n:Int):bits .and .i64 n 255=n % 256:=by
 have h255:(BitVec.ofInt 64 255).toNat=2 ^ 8-1:=by decide
 have key:(BitVec.ofInt 64 n &&& BitVec.ofInt 64 255).toNat=(n % ((2 ^ 64:Nat):Int)).toNat % 2 ^ 8:=by
  rw [BitVec.toNat_and,BitVec.toNat_ofInt,h255,Nat.and_two_pow_sub_one_eq_mod]
 show IntKind.i64.wrap ((BitVec.ofInt 64 n &&& BitVec.ofInt 64 255).toNat:Nat)=n % 256
 rw [key,IntKind.wrap_i64]
 omega
abbrev Cur:=List Int × Int × Int
def curOk (c:Cur):Prop:=c.1.length<=1048576/\0<=c.2.1/\c.2.1<=c.1.length
theorem h_sl01Byte (c:Cur) (hc:curOk c):∃r c',g_sl01Byte c=some (r,c')/\curOk c'/\0<=r/\r<=255:=by
 have e:g_sl01Byte c=f_sl01Byte BIG c:=rfl
 obtain ⟨h1,h2,h3⟩:=hc
 rw [e,e_sl01Byte,decide_eq_false (by decide),cond_false,decide_eq_false (by decide),cond_false]
 simp only [and255]
 by_cases h:c.2.1<c.1.length
 ·rw [decide_eq_true h,cond_true,bnd_ok h2 h,List.getElem?_eq_getElem (by omega),Option.bind_some,Option.bind_some]
  refine ⟨_,_,rfl,⟨h1,?_,?_⟩,Int.emod_nonneg _ (by decide),by omega⟩
  ·show 0<=IntKind.wrap .i64 (c.2.1+1)
   rw [wr (by omega) (by omega)];omega
  ·show IntKind.wrap .i64 (c.2.1+1)<=_
   rw [wr (by omega) (by omega)]
   show c.2.1+1<=(c.1.length:Int)
   omega
 ·rw [decide_eq_false h,cond_false,Option.bind_some]
  exact ⟨_,_,rfl,⟨h1,h2,h3⟩,Int.emod_nonneg _ (by decide),by omega⟩
theorem h_sl01Below (c:Cur) (n:Int) (hc:curOk c) (hn:n<=1000000):∃r c',g_sl01Below (c,n)=some (r,c')/\curOk c'/\0<=r/\(0<n->r<n)/\(n<=0->r=0):=by
 have e:g_sl01Below (c,n)=f_sl01Below BIG (c,n):=rfl
 rw [e,e_sl01Below]
 by_cases h0:n<=0
 ·rw [decide_eq_true h0];exact ⟨0,c,rfl,hc,by omega,by omega,fun _=>rfl⟩
 ·rw [decide_eq_false h0,cond_false]
  obtain ⟨r1,c1,k1,o1,a1,b1⟩:=h_sl01Byte c hc
  by_cases h1:n<=256
  ·rw [decide_eq_true h1,cond_true,k1,Option.bind_some,decide_eq_false (by omega),cond_false]
   refine ⟨_,_,rfl,o1,Int.tmod_nonneg _ a1,fun _ => ?_,by omega⟩
   show Int.tmod r1 n<n
   exact Int.tmod_lt_of_pos _ (by omega)
  ·rw [decide_eq_false h1,cond_false,k1,Option.bind_some]
   obtain ⟨r2,c2,k2,o2,a2,b2⟩:=h_sl01Byte c1 o1
   obtain ⟨r3,c3,k3,o3,a3,b3⟩:=h_sl01Byte c2 o2
   obtain ⟨r4,c4,k4,o4,a4,b4⟩:=h_sl01Byte c3 o3
   simp only [k2,k3,k4,Option.bind_some]
   rw [decide_eq_false (by omega),cond_false]
   refine ⟨_,_,rfl,o4,?_,fun _=>Int.tmod_lt_of_pos _ (by omega),by omega⟩
   refine Int.tmod_nonneg _ ?_
   rw [wr (n:=r1*16777216) (by omega) (by omega),wr (n:=r2*65536) (by omega) (by omega),wr (n:=r3*256) (by omega) (by omega),wr (n:=r1*16777216+r2*65536) (by omega) (by omega),wr (n:=r1*16777216+r2*65536+r3*256) (by omega) (by omega),wr (by omega) (by omega)]
   omega
theorem h_sl05Edge (c:Cur) (n:Int) (hc:curOk c) (hn:2<=n) (hn':n<=12):∃e c',g_sl05Edge (c,n)=some (e,c')/\curOk c'/\edB n e=true:=by
 have e:g_sl05Edge (c,n)=f_sl05Edge BIG (c,n):=rfl
 rw [e,e_sl05Edge]
 obtain ⟨r0,c0,k0,o0,a0,b0,_⟩:=h_sl01Below c n hc (by omega)
 obtain ⟨r1,c1,k1,o1,a1,b1,_⟩:=h_sl01Below c0 n o0 (by omega)
 have b0:=b0 (by omega)
 have b1:=b1 (by omega)
 simp only [k0,k1,Option.bind_some]
 have key:∀x2:Int,0<=x2->x2<n->x2≠r0->∃e c',(bif decide (x2<r0) then some ((x2,r0),c1) else some ((r0,x2),c1))=some (e,c')/\curOk c'/\edB n e=true:=by
  intro x2 p q hne
  by_cases h:x2<r0
  ·rw [decide_eq_true h]
   refine ⟨_,_,rfl,o1,?_⟩
   simp only [edB,Bool.and_eq_true,inB_t,decide_eq_true_eq]
   omega
  ·rw [decide_eq_false h]
   refine ⟨_,_,rfl,o1,?_⟩
   simp only [edB,Bool.and_eq_true,inB_t,decide_eq_true_eq]
   omega
 by_cases h:r0=r1
 ·rw [decide_eq_true h,cond_true,decide_eq_false (by omega),cond_false,Option.bind_some,wr (by omega) (by omega)]
  have hm:Int.tmod (r0+1) n=if r0+1=n then 0 else r0+1:=by
   rw [Int.tmod_eq_emod_of_nonneg (by omega)]
   split
   ·rename_i h;rw [h];exact Int.emod_self
   ·exact Int.emod_eq_of_lt (by omega) (by omega)
  rw [hm]
  split
  ·exact key 0 (by omega) (by omega) (by omega)
  ·exact key _ (by omega) (by omega) (by omega)
 ·rw [decide_eq_false h,cond_false,Option.bind_some]
  exact key r1 a1 b1 (fun hh=>h hh.symm)
def GrOk (n:Int) (es:List Ed):Prop:=2<=n/\n<=12/\Srt es/\(∀e,e∈es->edB n e=true)
theorem eOk_of {n:Int} {es:List Ed} (h:GrOk n es) (hl:es.length<=66):eOk n es=true:=by
 unfold eOk
 rw [if_pos]
 ·rw [decide_eq_true_eq];omega
 ·intro i hi
  have hy:=List.getElem?_eq_getElem hi
  cases i with
  | zero=>rw [eP_0 hy];exact h.2.2.2 _ (List.getElem_mem _)
  | succ j=>
   have hj:=List.getElem?_eq_getElem (show j<es.length by omega)
   rw [eP_s hy hj,h.2.2.2 _ (List.getElem_mem _),Bool.true_and]
   exact List.pairwise_iff_getElem.1 h.2.2.1 j (j+1) (by omega) (by omega) (by omega)
theorem h_sHasEdge (n:Int) (es:List Ed) (e:Ed) (hl:es.length<=maxLen):g_sHasEdge ((n,es),e)=some (decide (e∈es),()):=by
 show f_sHasEdge BIG _=_
 rw [e_sHasEdge,h_sl05Has _ _ hl];rfl
theorem h_iHasEdge (n:Int) (es:List Ed) (e:Ed) (hl:es.length<=maxLen):g_iHasEdge ((n,es),e)=some (decide (e∈es),()):=by
 show f_iHasEdge BIG _=_
 rw [e_iHasEdge,h_ihasEdge _ _ hl];rfl
theorem h_sl01New (a:List Int) (ha:a.length<=1048576):∃c,g_sl01New a=some (c,())/\curOk c:=by
 have hm:maxLen=9223372036854775807:=by decide
 have e:g_sl01New a=f_sl01New BIG a:=rfl
 rw [e,e_sl01New]
 have:=loop_rel (F:=fun (self1:Int × Int->Option (Int)) (x0:Int × Int)=>
  Option.bind (bif decide (x0.2<(a.length:Int)) then
   some (decide (x0.2<(4000:Int)))
   else some false:Option (Bool)) fun x2=>
  bif x2 then
   bnd a.length x0.2 fun n3=>
   Option.bind a[n3]? fun y4=>
   self1 (bits .and .i64 (IntKind.wrap .i64 ((IntKind.wrap .i64 ((IntKind.wrap .i64 (x0.1*(131:Int)))+(IntKind.wrap .i64 (y4))))+(7:Int))) (1073741823:Int),IntKind.wrap .i64 (x0.2+(1:Int)))
  else some x0.1) (fun x=>∃i:Nat,x.2=i/\i<=a.length) (fun x=>a.length-x.2.toNat) (fun _ _=>True) (fun self x ⟨i,h1,h2⟩ hs => ?_) (n:=BIG) (x:=(IntKind.wrap .i64 ((13501:Int)+(a.length:Int)),0)) (by simp [BIG];omega) ⟨0,rfl,by omega⟩
 ·obtain ⟨b,hb,_⟩:=this
  rw [hb]
  exact ⟨_,rfl,ha,Int.le_refl _,by simp⟩
 ·obtain ⟨z,j⟩:=x
  simp only at h1
  subst h1
  by_cases h:i<a.length
  ·by_cases h':(i:Int)<4000
   ·simp only [show ((i:Int)<(a.length:Int)) from by omega,h',decide_true,cond_true,Option.bind_some]
    rw [bnd_nat h,List.getElem?_eq_getElem h,Option.bind_some,wr1 (by omega)]
    exact hs _ ⟨i+1,rfl,h⟩ (by simp;omega)
   ·simp only [show ((i:Int)<(a.length:Int)) from by omega,h',decide_true,decide_false,cond_true,cond_false,Option.bind_some]
    exact ⟨_,rfl,trivial⟩
  ·simp only [show ¬((i:Int)<(a.length:Int)) from by omega,decide_false,cond_false,Option.bind_some]
   exact ⟨_,rfl,trivial⟩
def del (es:List Ed) (e:Ed):List Ed:=es.filter (fun y=>!decide (y=e))
theorem h_lsameEdges (a b:List Ed) (ha:a.length<=maxLen):g_lsameEdges (a,b)=some (decide (a=b),()):=by
 show f_lsameEdges BIG _=_
 rw [e_lsameEdges]
 by_cases hl:a.length=b.length
 ·rw [decide_eq_true (by omega),Bool.not_true,cond_false,eqLoop a b ha hl false]
  ·by_cases h:a=b<;>simp [h]
  ·intro self i x y hx hy
   have hi:=(List.getElem?_eq_some_iff.1 hx).1
   simp only [show ((i:Int)<(a.length:Int)) from by omega,decide_true,cond_true]
   rw [bnd_nat hi,hx,Option.bind_some,bnd_nat (by omega),hy,Option.bind_some,wr1 (by omega)]
   obtain ⟨x1,x2⟩:=x
   obtain ⟨y1,y2⟩:=y
   by_cases h1:x1=y1<;>by_cases h2:x2=y2<;>simp [h1,h2]
  ·intro self
   simp
 ·rw [decide_eq_false (by omega),Bool.not_false,cond_true,decide_eq_false (fun h=>hl (by rw [h]))]
theorem del_mem {es:List Ed} {e x:Ed}:x∈del es e↔x∈es/\x≠e:=by simp [del]
theorem del_srt {es:List Ed} {e:Ed} (h:Srt es):Srt (del es e):=h.filter _
theorem GrOk.ins {n:Int} {es:List Ed} {e:Ed} (h:GrOk n es) (he:edB n e=true):GrOk n (ins es e):=⟨h.1,h.2.1,ins_srt h.2.2.1,fun x hx=>by
 rcases ins_mem.1 hx with rfl|hx
 ·exact he
 ·exact h.2.2.2 x hx⟩
theorem GrOk.del {n:Int} {es:List Ed} {e:Ed} (h:GrOk n es):GrOk n (del es e):=⟨h.1,h.2.1,del_srt h.2.2.1,fun x hx=>h.2.2.2 x (del_mem.1 hx).1⟩
theorem h_lbig (a:List Int):g_lbig a=some (decide ((1048576:Int)<(a.length:Int)),()):=e_lbig BIG a
theorem h_sl01Once (c:Cur) (n:Int) (hc:curOk c) (hn:n<=1000000):∃b c',g_sl01Once (c,n)=some (b,c')/\curOk c':=by
 have e:g_sl01Once (c,n)=f_sl01Once BIG (c,n):=rfl
 obtain ⟨r,c',k,o,_⟩:=h_sl01Below c n hc hn
 rw [e,e_sl01Once,k]
 exact ⟨_,_,rfl,o⟩
theorem h_sl01PickInt (c:Cur) (l:List Int) (hc:curOk c) (h0:0<l.length) (hl:l.length<=1000000):∃b c',g_sl01PickInt (c,l)=some (b,c')/\curOk c':=by
 have e:g_sl01PickInt (c,l)=f_sl01PickInt BIG (c,l):=rfl
 obtain ⟨r,c',k,o,a,b,_⟩:=h_sl01Below c l.length hc (by omega)
 have b:=b (by omega)
 rw [e,e_sl01PickInt,k,Option.bind_some,bnd_ok a b,List.getElem?_eq_getElem (by omega)]
 exact ⟨_,_,rfl,o⟩
theorem h_sl09N (c:Cur) (hc:curOk c):∃n c',g_sl09N c=some (n,c')/\curOk c'/\2<=n/\n<=12:=by
 have e:g_sl09N c=f_sl09N BIG c:=rfl
 obtain ⟨r,c',k,o,a,b,_⟩:=h_sl01Below c 11 hc (by omega)
 have b:=b (by omega)
 rw [e,e_sl09N,k,Option.bind_some,wr (by omega) (by omega)]
 exact ⟨_,_,rfl,o,by omega,by omega⟩
theorem h_sWebNew (n:Int):g_sWebNew n=some (if inB n 1 12 then (n,[],true) else (0,[],false),()):=by
 show f_sWebNew BIG _=_
 rw [e_sWebNew,h_sl01In',Option.bind_some]
 cases inB n 1 12<;>rfl
theorem h_sShardNew (a b:Int):g_sShardNew (a,b)=some (if inB a 1 3&&inB b 1 12 then (a,b,[],0,false,[],[],true) else (0,0,[],0,false,[],[],false),()):=by
 show f_sShardNew BIG _=_
 rw [e_sShardNew,h_sWebNew,h_sl01In']
 cases inB a 1 3<;>cases inB b 1 12<;>rfl
abbrev Led:=Int × Int × Int × Bool
theorem grLoop (E:List Led) (hE:E.length<=4294967295) {n:Int} {F:((Int × List (Int × Int)) × Int->Option (Int × List (Int × Int)))->(Int × List (Int × Int)) × Int->Option (Int × List (Int × Int))}
  (hF:∀self out (i:Nat) y,E[i]?=some y->F self ((n,out),(i:Int))=bif decide (out.length+1<=4294967296) then self ((n,out++[(y.1,y.2.1)]),((i+1:Nat):Int)) else none)
  (hE':∀self x,F self (x,(E.length:Int))=some x):loopT BIG F ((n,[]),0)=some (n,E.map fun x=>(x.1,x.2.1)):=by
 rw [foldLoop E (by omega) (fun i (s:Int × List (Int × Int))=>s.1=n/\s.2.length=i) (fun s y=>(s.1,s.2++[(y.1,y.2.1)])) id ⟨rfl,rfl⟩ (fun i s y _ h=>⟨h.1,by simp [h.2]⟩)]
 ·have:∀(l:List Led) (s:Int × List (Int × Int)),l.foldl (fun s y=>(s.1,s.2++[(y.1,y.2.1)])) s=(s.1,s.2++l.map fun x=>(x.1,x.2.1)):=by
   intro l
   induction l with
   | nil=>intro s;simp
   | cons y l ih=>intro s;rw [List.foldl_cons,ih];simp
  rw [this];simp
 ·rintro self ⟨m,out⟩ i y hy ⟨rfl,h2⟩
  simp only at h2
  have hi:=(List.getElem?_eq_some_iff.1 hy).1
  rw [hF self out i y hy,decide_eq_true (by omega),cond_true]
 ·intro self s _
  exact hE' self s
theorem h_iGraphOf (n:Int) (E:List Led) (hE:E.length<=1048576):g_iGraphOf (n,E)=some ((n,E.map fun x=>(x.1,x.2.1)),()):=by
 have hm:maxLen=9223372036854775807:=by decide
 show f_iGraphOf BIG _=_
 rw [e_iGraphOf]
 dsimp only
 rw [grLoop E (by omega)]
 ·rfl
 ·intro self out i y hy
  have hi:=(List.getElem?_eq_some_iff.1 hy).1
  simp only [show ((i:Int)<(E.length:Int)) from by omega,decide_true,cond_true]
  rw [bnd_nat hi,hy,Option.bind_some,wr1 (by omega)]
  rfl
 ·intro self x
  simp
theorem h_sGraphOf (n:Int) (E:List Led) (hE:E.length<=1048576):g_sGraphOf (n,E)=some ((n,E.map fun x=>(x.1,x.2.1)),()):=by
 have hm:maxLen=9223372036854775807:=by decide
 show f_sGraphOf BIG _=_
 rw [e_sGraphOf]
 dsimp only
 rw [grLoop E (by omega)]
 ·rfl
 ·intro self out i y hy
  have hi:=(List.getElem?_eq_some_iff.1 hy).1
  simp only [show ((i:Int)<(E.length:Int)) from by omega,decide_true,cond_true]
  rw [bnd_nat hi,hy,Option.bind_some,bnd_nat hi,hy,Option.bind_some,wr1 (by omega)]
  rfl
 ·intro self x
  simp
theorem h_iOwned (x0 x1:Int) (x2:List Led) (x3:Int) (x4:Bool) (x5:List Ed) (x6:List Int) (hE:x2.length<=1048576):g_iOwned (x0,x1,x2,x3,x4,x5,x6)=some (x2.map fun x=>(x.1,x.2.1),()):=by
 show f_iOwned BIG _=_
 rw [e_iOwned]
 dsimp only
 rw [h_iGraphOf _ _ hE]
 rfl
theorem rangeLoop {S B:Type} (n:Nat) (hl:n<18446744073709551616) {F:(S × Int->Option B)->S × Int->Option B} (I:Nat->S->Prop) (st:Nat->S->S) (R:S->B) {s0:S} (h0:I 0 s0)
  (hI:∀i s,i<n->I i s->I (i+1) (st i s)) (hF:∀self s (i:Nat),i<n->I i s->F self (s,(i:Int))=self (st i s,((i+1:Nat):Int)))
  (hE:∀self s,I n s->F self (s,(n:Int))=some (R s)):loopT BIG F (s0,0)=some (R ((List.range n).foldl (fun s i=>st i s) s0)):=by
 have hr:∀{i y:Nat},(List.range n)[i]?=some y->i<n/\y=i:=by
  intro i y h
  have hi:=(List.getElem?_eq_some_iff.1 h).1
  rw [List.length_range] at hi
  rw [List.getElem?_range hi] at h
  cases h
  exact ⟨hi,rfl⟩
 refine foldLoop (List.range n) (by rw [List.length_range];exact hl) I (fun s i=>st i s) R h0 (fun i s y hy hi => ?_) (fun self s i y hy hi => ?_) (fun self s hs => ?_)
 ·obtain ⟨h1,rfl⟩:=hr hy;exact hI _ _ h1 hi
 ·obtain ⟨h1,rfl⟩:=hr hy;exact hF _ _ _ h1 hi
 ·rw [List.length_range] at hs ⊢;exact hE _ _ hs
theorem fold_snoc {α:Type} (f:Nat->α) (n:Nat) (s:List α):(List.range n).foldl (fun s i=>s++[f i]) s=s++(List.range n).map f:=by
 induction n with
 | zero=>simp
 | succ n ih=>rw [List.range_succ,List.foldl_append,ih];simp
theorem lab0Loop (n:Nat) (hn:n<=1000000) {F:(List Int × Int->Option (List Int))->List Int × Int->Option (List Int)}
  (hF:∀self out (i:Nat),i<n->out.length=i->F self (out,(i:Int))=self (out++[(i:Int)],((i+1:Nat):Int)))
  (hE:∀self out,F self (out,(n:Int))=some out):loopT BIG F ([],0)=some (lab0 n):=by
 rw [rangeLoop n (by omega) (fun i (s:List Int)=>s.length=i) (fun i s=>s++[(i:Int)]) id rfl (fun i s _ h=>by simp [h]) (fun self s i hi h=>hF self s i hi h) (fun self s _=>hE self s),fold_snoc]
 rfl
theorem h_ifirst (n:Nat) (hn:n<=1000000):g_ifirst (n:Int)=some (lab0 n,()):=by
 have hm:maxLen=9223372036854775807:=by decide
 show f_ifirst BIG _=_
 rw [e_ifirst,lab0Loop n hn]
 ·rfl
 ·intro self out i hi hl
  simp only [show ((i:Int)<(n:Int)) from by omega,decide_true,cond_true]
  rw [decide_eq_true (by simp;omega),cond_true,wr1 (by omega)]
 ·intro self out
  simp
theorem lrnds_fold (E:List (Int × Int)) (n:Nat):∀l:List Int,(List.range n).foldl (fun s _=>lrnd E s) l=lrnds E n l:=by
 have:∀(m:Nat) (l:List Int),lrnds E (m+1) l=lrnd E (lrnds E m l):=by
  intro m
  induction m with
  | zero=>intro l;rfl
  | succ m ih=>intro l;show lrnds E (m+1) (lrnd E l)=_;rw [ih];rfl
 induction n with
 | zero=>intro l;rfl
 | succ n ih=>intro l;rw [List.range_succ,List.foldl_append,ih,this];rfl
theorem h_sl05Labels (n:Nat) (E:List (Int × Int)) (hn:n<=12) (hE:EIn n E) (hl:E.length<=4611686018427387904):g_sl05Labels ((n:Int),E)=some (labs n E,()):=by
 have hm:maxLen=9223372036854775807:=by decide
 show f_sl05Labels BIG _=_
 rw [e_sl05Labels,lab0Loop n (by omega)]
 ·rw [Option.bind_some,rangeLoop n (by omega) (fun i (s:List Int)=>s.length=n) (fun _ s=>lrnd E s) id (lab0_len n) (fun i s _ h=>by rw [lrnd_len];exact h)]
  ·rw [lrnds_fold,lrnds_labs hE];rfl
  ·intro self s i hi hs
   simp only [show ((i:Int)<(n:Int)) from by omega,decide_true,cond_true]
   rw [foldLoop E (by omega) (fun _ (s:List Int)=>s.length=n) rlE id hs (fun i s y _ h=>by rw [rlE_len];exact h)]
   ·rw [Option.bind_some,wr1 (by omega)];rfl
   ·intro self s i y hy hs
    have hi:=(List.getElem?_eq_some_iff.1 hy).1
    obtain ⟨h1,h2,h3,h4⟩:=hE y (List.mem_of_getElem? hy)
    have i1:y.1.toNat<s.length:=by omega
    have i2:y.2.toNat<s.length:=by omega
    simp only [show ((i:Int)<(E.length:Int)) from by omega,decide_true,cond_true]
    rw [wr1 (by omega),bnd_nat hi,hy,Option.bind_some,bnd_ok h1 (by omega),getD_at i1,Option.bind_some,bnd_nat hi,hy,Option.bind_some,bnd_ok h3 (by omega),getD_at i2,Option.bind_some]
    unfold rlE
    simp only
    by_cases c1:s.getD y.1.toNat 0<s.getD y.2.toNat 0
    ·rw [decide_eq_true c1,cond_true,bnd_nat hi,hy,Option.bind_some,bnd_ok h3 (by omega),getD_at i2,Option.bind_some,Option.bind_some,decide_eq_false (by omega),cond_false,if_pos c1,if_neg (by omega)]
     rfl
    ·rw [decide_eq_false c1,cond_false,Option.bind_some,if_neg c1]
     by_cases c2:s.getD y.2.toNat 0<s.getD y.1.toNat 0
     ·rw [decide_eq_true c2,cond_true,bnd_nat hi,hy,Option.bind_some,bnd_ok h1 (by omega),getD_at i1,Option.bind_some,if_pos c2]
      rfl
     ·rw [decide_eq_false c2,cond_false,if_neg c2]
      rfl
   ·intro self s _
    simp
  ·intro self s _
   simp
 ·intro self out i hi hl
  simp only [show ((i:Int)<(n:Int)) from by omega,decide_true,cond_true]
  rw [decide_eq_true (by simp;omega),cond_true,wr1 (by omega)]
 ·intro self out
  simp
def grB (n:Int) (es:List Ed):Bool:=inB n 1 12&&eOk n es
theorem w_iGraphOk (n:Int) (es:List Ed) (hl:es.length<=1048576):g_iGraphOk (n,es)=some (grB n es,()):=by
 show f_iGraphOk BIG _=_
 rw [e_iGraphOk,h_iin',h_iedgesOk n es hl]
 unfold grB
 cases inB n 1 12<;>rfl
theorem w_sGraphOk (n:Int) (es:List Ed) (hl:es.length<=1048576):g_sGraphOk (n,es)=some (grB n es,()):=by
 show f_sGraphOk BIG _=_
 rw [e_sGraphOk,h_sl01In',h_sl05Edges n es hl]
 unfold grB
 cases inB n 1 12<;>rfl
theorem eOk_srt {n:Int} {es:List Ed} (h:eOk n es=true):(∀e,e∈es->edB n e=true)/\Srt es/\es.length<=66:=by
 have hl:=eOk_len h
 unfold eOk at h
 split at h
 case isFalse=>cases h
 case isTrue hp=>
 have hc:∀i (h:i+1<es.length),edB n es[i+1]=true/\lsB es[i] es[i+1]=true:=by
  intro i hi
  have:=hp (i+1) hi
  rw [eP_s (List.getElem?_eq_getElem hi) (List.getElem?_eq_getElem (by omega)),Bool.and_eq_true] at this
  exact this
 have h0:∀i (h:i<es.length),edB n es[i]=true:=by
  intro i hi
  cases i with
  | zero=>have:=hp 0 hi;rwa [eP_0 (List.getElem?_eq_getElem hi)] at this
  | succ i=>exact (hc i hi).1
 refine ⟨fun e he => ?_,List.pairwise_iff_getElem.2 fun i j hi hj hij => ?_,hl⟩
 ·obtain ⟨i,hi,rfl⟩:=List.getElem_of_mem he
  exact h0 i hi
 ·have:∀d (h:i+1+d<es.length),lsB es[i] es[i+1+d]=true:=by
   intro d
   induction d with
   | zero=>intro h;exact (hc i h).2
   | succ d ih=>intro h;exact lsB_trans (ih (by omega)) (hc (i+1+d) h).2
  have:=this (j-(i+1)) (by omega)
  simpa [show i+1+(j-(i+1))=j from by omega] using this
theorem edB_in {n:Nat} {e:Ed} (h:edB (n:Int) e=true):0<=e.1/\e.1<n/\0<=e.2/\e.2<n/\e.1<e.2:=by
 simp only [edB,Bool.and_eq_true,inB_t,decide_eq_true_eq] at h
 omega
theorem eOk_in {n:Nat} {es:List Ed} (h:eOk (n:Int) es=true):EIn n es:=fun e he=>by
 have:=edB_in ((eOk_srt h).1 e he)
 exact ⟨this.1,this.2.1,this.2.2.1,this.2.2.2.1⟩
theorem mapLoop {α:Type} (a:List α) (f:α->α) (hl:a.length<18446744073709551616) {F:(List α × Int->Option (List α))->List α × Int->Option (List α)}
  (hF:∀self out (i:Nat) y,out.length=a.length->out[i]?=some y->a[i]?=some y->F self (out,(i:Int))=self (out.set i (f y),((i+1:Nat):Int)))
  (hE:∀self out,out.length=a.length->F self (out,(a.length:Int))=some out):loopT BIG F (a,0)=some (a.map f):=by
 have:=loop_eq (F:=F) (fun x=>∃i:Nat,x.2=i/\i<=a.length/\x.1=(a.map f).take i++a.drop i) (fun x=>a.length-x.2.toNat) (fun _=>a.map f) (fun self x ⟨i,h1,h2,h3⟩ hs => ?_) (n:=BIG) (x:=(a,0)) (by simp;exact hl) ⟨0,rfl,by simp,by simp⟩
 ·exact this
 ·obtain ⟨out,j⟩:=x
  simp only at h1 h3
  subst h1
  have hlen:out.length=a.length:=by rw [h3];simp;omega
  by_cases hi:i<a.length
  ·have hy:=List.getElem?_eq_getElem hi
   have ho:out[i]?=some a[i]:=by
    rw [h3,List.getElem?_append_right (by simp;omega)]
    simp [Nat.min_eq_left (show i<=a.length from by omega)]
   rw [hF self out i a[i] hlen ho hy]
   have e:=set_take_drop (a:=a) (t:=a.map f) (i:=i) (z:=f a[i]) (by simp) hi (by simp [hi])
   rw [<-h3] at e
   exact hs _ ⟨i+1,rfl,hi,e⟩ (by simp;omega)
  ·have:i=a.length:=by omega
   subst this
   rw [hE self out hlen,h3]
   simp [List.take_of_length_le]
theorem set_self {α:Type} {l:List α} {i:Nat} {y:α} (h:l[i]?=some y):l.set i y=l:=by
 apply List.ext_getElem?
 intro j
 rw [List.getElem?_set]
 split
 ·subst j
  have:=(List.getElem?_eq_some_iff.1 h).1
  simp [this,h.symm]
 ·rfl
theorem h_iunion (l:List Int) (a b:Int) (ha:0<=a) (ha':a<l.length) (hb:0<=b) (hb':b<l.length) (hl:l.length<=1048576) :
  g_iunion (l,a,b)=some (!decide (l.getD a.toNat 0=l.getD b.toNat 0),unE l (a,b)):=by
 have hm:maxLen=9223372036854775807:=by decide
 show f_iunion BIG _=_
 rw [e_iunion,bnd_ok ha ha',getD_at (by omega),Option.bind_some,bnd_ok hb hb',getD_at (by omega),Option.bind_some]
 unfold unE
 simp only
 generalize l.getD a.toNat 0=x
 generalize l.getD b.toNat 0=y
 by_cases h:x=y
 ·subst h
  rw [decide_eq_true rfl,cond_true,unL_same];rfl
 ·rw [decide_eq_false h,cond_false,mapLoop l (fun z=>if z=(if y > x then y else x) then (if y<x then y else x) else z) (by omega)]
  ·rfl
  ·intro self out i z hlo ho hz
   have hi:=(List.getElem?_eq_some_iff.1 hz).1
   simp only [show ((i:Int)<(l.length:Int)) from by omega,decide_true,cond_true]
   rw [bnd_nat (by omega),ho,Option.bind_some,wr1 (by omega)]
   by_cases hc:z=(if y > x then y else x)
   ·rw [decide_eq_true hc,cond_true,bnd_nat (by omega),ho,Option.bind_some,if_pos hc];rfl
   ·rw [decide_eq_false hc,cond_false,if_neg hc,set_self ho];rfl
  ·intro self out hlo
   simp
theorem h_sLabels (n:Nat) (es:List Ed) (hl:es.length<=1048576):g_sLabels ((n:Int),es)=some (if grB n es then labs n es else [],()):=by
 show f_sLabels BIG _=_
 rw [e_sLabels,w_sGraphOk _ _ hl,Option.bind_some]
 cases hg:grB n es with
 | false=>rfl
 | true=>
  simp only [grB,Bool.and_eq_true,inB_t] at hg
  simp only [Bool.not_true,cond_false]
  rw [h_sl05Labels n es (by omega) (eOk_in hg.2) (by omega)];rfl
def addR (n:Int) (es:List Ed) (e:Ed):Int × List Ed × Bool:=if grB n es&&(edB n e && !decide (e∈es)) then (n,ins es e,true) else (0,[],false)
theorem w_iAddEdge (n:Int) (es:List Ed) (e:Ed) (hl:es.length<=1048576):g_iAddEdge ((n,es),e)=some (addR n es e,()):=by
 have hm:maxLen=9223372036854775807:=by decide
 show f_iAddEdge BIG _=_
 rw [e_iAddEdge,w_iGraphOk n es hl,h_iEdgeOk,h_iHasEdge n es e (by omega),h_iwithEdge es e hl]
 unfold addR
 cases hg:grB n es with
 | false=>rfl
 | true=>
  cases he:edB n e with
  | false=>rfl
  | true=>
   by_cases hin:e∈es
   ·rw [decide_eq_true hin];rfl
   ·simp only [grB,Bool.and_eq_true] at hg
    rw [decide_eq_false hin,fdI_ins (eOk_srt hg.2).2.1 hin];rfl
theorem w_sAddEdge (n:Int) (es:List Ed) (e:Ed) (hl:es.length<=1048576):g_sAddEdge ((n,es),e)=some (addR n es e,()):=by
 have hm:maxLen=9223372036854775807:=by decide
 show f_sAddEdge BIG _=_
 rw [e_sAddEdge,w_sGraphOk n es hl,h_sEdgeOk,h_sHasEdge n es e (by omega),h_sl05Put es e hl]
 unfold addR
 cases hg:grB n es with
 | false=>rfl
 | true=>
  cases he:edB n e with
  | false=>rfl
  | true=>cases decide (e∈es)<;>rfl
def edO (a b:Int):Ed:=if a<b then (a,b) else (b,a)
theorem h_icopyEdges (es:List Ed) (hl:es.length<=1048576):g_icopyEdges es=some (es,()):=by
 show f_icopyEdges BIG _=_
 rw [e_icopyEdges,decide_eq_true (by omega)];rfl
def by8 (n:Int):UInt8:=UInt8.ofNat (n % 256).toNat
def vF:Nat->Nat->List UInt8
 | 0,v=>[by8 (v:Int)]
 | k+1,v=>if v<=127 then [by8 (v:Int)] else by8 ((v % 128+128:Nat):Int)::vF k (v / 128)
def vB (v:Nat):List UInt8:=vF 9 v
def e2 (e:Ed):List UInt8:=[by8 e.1,by8 e.2]
def dec:Nat->List UInt8->Option (Nat × Nat)
 | 0,_=>none
 | _+1,[]=>none
 | k+1,b::l=>if b.toNat<128 then some (b.toNat,1) else (dec k l).map fun r=>(b.toNat-128+128*r.1,r.2+1)
def rdV (l:List UInt8):Option (Nat × Nat):=match dec 5 l with
 | some (v,m)=>if v<=1000000000/\vB v=l.take m then some (v,m) else none
 | none=>none
abbrev St:=Nat × Bool
def nm (T:List UInt8) (s:St):Int × St:=
 if s.2 then (0,(s.1,true)) else match rdV (T.drop s.1) with
 | some (v,m)=>((v:Int),(s.1+m,false))
 | none=>(0,(s.1,true))
def on (T:List UInt8) (s:St):Int × St:=
 if s.2 then (0,(s.1,true)) else match T[s.1]? with
 | some b=>((b.toNat:Int),(s.1+1,false))
 | none=>(0,(s.1,true))
def edF (T:List UInt8):Nat->St->List Ed->St × List Ed
 | 0,s,out=>(s,out)
 | k+1,s,out=>if s.2 then (s,out) else edF T k (on T (on T s).2).2 (out++[((on T s).1,(on T (on T s).2).1)])
def q0 (T:List UInt8):Int × St:=nm T (0,false)
def q1 (T:List UInt8):Int × St:=on T (q0 T).2
def q2 (T:List UInt8):Int × St:=nm T (q1 T).2
def q3 (T:List UInt8) (K:Nat):St × List Ed:=edF T K (nm T (q2 T).2).2 []
def lbF (T:List UInt8):Nat->St->List Int->St × List Int
 | 0,s,out=>(s,out)
 | k+1,s,out=>lbF T k (on T s).2 (out++[(on T s).1])
def q4 (T:List UInt8) (K:Nat):St × List Ed:=edF T K (nm T (q1 T).2).2 []
def q5 (T:List UInt8) (K N:Nat):St × List Int:=lbF T N (q4 T K).1 []
theorem h_sl05SameEdges (a b:List Ed) (ha:a.length<=maxLen):g_sl05SameEdges (a,b)=some (decide (a=b),()):=by
 show f_sl05SameEdges BIG _=_
 rw [e_sl05SameEdges]
 by_cases hl:a.length=b.length
 ·rw [decide_eq_true (by omega),Bool.not_true,cond_false,eqLoop a b ha hl false]
  ·by_cases h:a=b<;>simp [h]
  ·intro self i x y hx hy
   have hi:=(List.getElem?_eq_some_iff.1 hx).1
   simp only [show ((i:Int)<(a.length:Int)) from by omega,decide_true,cond_true]
   rw [bnd_nat hi,hx,Option.bind_some,bnd_nat (by omega),hy,Option.bind_some,wr1 (by omega)]
   obtain ⟨x1,x2⟩:=x
   obtain ⟨y1,y2⟩:=y
   by_cases h1:x1=y1<;>by_cases h2:x2=y2<;>simp [h1,h2]
  ·intro self
   simp
 ·rw [decide_eq_false (by omega),Bool.not_false,cond_true,decide_eq_false (fun h=>hl (by rw [h]))]
theorem h_sl05SameInts (a b:List Int) (ha:a.length<=maxLen):g_sl05SameInts (a,b)=some (decide (a=b),()):=by
 show f_sl05SameInts BIG _=_
 rw [e_sl05SameInts]
 by_cases hl:a.length=b.length
 ·rw [decide_eq_true (by omega),Bool.not_true,cond_false,eqLoop a b ha hl false]
  ·by_cases h:a=b<;>simp [h]
  ·intro self i x y hx hy
   have hi:=(List.getElem?_eq_some_iff.1 hx).1
   simp only [show ((i:Int)<(a.length:Int)) from by omega,decide_true,cond_true]
   rw [bnd_nat hi,hx,Option.bind_some,bnd_nat (by omega),hy,Option.bind_some,wr1 (by omega)]
   by_cases h1:x=y<;>simp [h1]
  ·intro self
   simp
 ·rw [decide_eq_false (by omega),Bool.not_false,cond_true,decide_eq_false (fun h=>hl (by rw [h]))]
def blA (a:An):Bool:=decide (a.1=0)&&(!a.2.1&&(decide (a.2.2.1.length=0)&&decide (a.2.2.2.length=0)))
def blO (o:Or'):Bool:=decide (o.1=0)&&(decide (o.2.1=0)&&(decide (o.2.2.1.length=0)&&decide (o.2.2.2=0)))
def blQ (a b c d:Int):Bool:=decide (a=0)&&(decide (b=0)&&(decide (c=0)&&decide (d=0)))
theorem len0 {α:Type} (l:List α):decide ((l.length:Int)=0)=decide (l.length=0):=decide_eq_decide.2 (by omega)
theorem h_inoAnswer (a:An):g_inoAnswer a=some (blA a,()):=by
 show f_inoAnswer BIG _=_
 rw [e_inoAnswer,len0,len0]
 unfold blA
 cases decide (a.1=0)<;>cases a.2.1<;>cases decide (a.2.2.1.length=0)<;>rfl
theorem nil_dec {α:Type} [DecidableEq α] (l:List α):decide (l=[])=decide (l.length=0):=decide_eq_decide.2 List.length_eq_zero_iff.symm
theorem h_sl10Blank (a:An) (h1:a.2.2.1.length<=maxLen) (h2:a.2.2.2.length<=maxLen):g_sl10Blank a=some (blA a,()):=by
 show f_sl10Blank BIG _=_
 rw [e_sl10Blank]
 have:g_sl09SameAnswer (a,((0:Int),false,[],[]))=f_sl09SameAnswer BIG (a,((0:Int),false,[],[])):=rfl
 rw [this,e_sl09SameAnswer]
 dsimp only
 rw [h_sl05SameEdges _ _ h1,h_sl05SameInts _ _ h2,nil_dec,nil_dec]
 unfold blA
 cases decide (a.1=0)<;>cases a.2.1<;>cases decide (a.2.2.1.length=0)<;>rfl
def sA (l:List Sd) (k:Int):Int:=if l.findIdx (fun y=>decide (y.1=k))<l.length then (l.findIdx (fun y=>decide (y.1=k)):Int) else -1
def tB (a b c d sh:Int) (o:Or'):Bool:=blQ a b c d&&(decide (sh=0)&&blO o)
def rtB (n:Int) (k:Nat) (op a b:Int):Bool:=
 inB op 1 4&&(inB a 0 (n-1)&&(bif decide (op=4) then inB b 1 k else inB b 0 (n-1) && !(decide (a=b)&&(decide (op=1) || decide (op=2)))))
theorem gD {α:Type} {l:List α} {i:Nat} {y d:α} (h:l[i]?=some y):l.getD i d=y:=by rw [List.getD_eq_getElem?_getD,h];rfl
def p1 (k:Nat) (l:List Int) (i:Nat):Bool:=inB (l.getD i 0) 1 k
def p2 (own:List Int) (cuts:List Ed) (i:Nat):Bool:=!decide (own.getD (cuts.getD i (0,0)).1.toNat 0=own.getD (cuts.getD i (0,0)).2.toNat 0)
def p3 (n:Int) (L:List (List Int)) (nums:List Int) (i:Nat):Bool:=lbOk n (L.getD i [])&&inB (nums.getD i 0) 0 99991
def p4c (l:List Sd) (i:Nat) (y:Sd):Bool:=decide (y.1=y.2.1)&&(inB y.2.2.2.2.2 1 3&&decide (sA l y.1=(i:Int)))
def p4 (l:List Sd) (i:Nat):Bool:=p4c l i (l.getD i (0,0,0,0,0,0))
abbrev oP1 (k:Nat) (l:List Int):Prop:=∀i,i<l.length->p1 k l i=true
abbrev oP2 (own:List Int) (cuts:List Ed):Prop:=∀i,i<cuts.length->p2 own cuts i=true
abbrev oP3 (n:Int) (L:List (List Int)) (nums:List Int):Prop:=∀i,i<L.length->p3 n L nums i=true
abbrev oP4 (l:List Sd):Prop:=∀i,i<l.length->p4 l i=true
open Classical in
noncomputable def hdB (n:Int) (own:List Int) (cuts:List Ed) (L:List (List Int)) (nums:List Int) (said:List Sd) (t:Bool):Bool:=
 decide ((inB n 1 12=true/\inB (L.length:Int) 1 3=true/\nums.length=L.length)/\oP3 n L nums/\((own.length:Int)=n/\eOk n cuts=true)/\oP1 L.length own/\oP2 own cuts/\(oP4 said/\said.length<=80)/\t=true)
def tkB (n:Int) (k:Nat) (nums:List Int) (said:List Sd) (id op a b sh:Int) (o:Or'):Bool:=
 tB id op a b sh o || ((inB id 1 100000&&(!decide (op=3)&&rtB n k op a b))&&(inB sh 1 k&&(ordB n o&&(decide (o.1=IntKind.wrap .i64 (nums.getD (sh-1).toNat 0+1))&&decide (sA said id<0)))))
structure HdF (x0:Int) (x1:List Int) (x2:List Ed) (x3:List (List Int)) (x4:List Int) (x14:List Sd):Prop where
 n:1<=x0/\x0<=12
 k:1<=x3.length/\x3.length<=3
 nums:x4.length=x3.length
 own:(x1.length:Int)=x0
 cuts:eOk x0 x2=true
 said:x14.length<=80
 o1:∀i,i<x1.length->1<=x1.getD i 0/\x1.getD i 0<=x3.length
 o3:∀i,i<x3.length->lbOk x0 (x3.getD i [])=true/\0<=x4.getD i 0/\x4.getD i 0<=99991
section
variable {x0:Int} {x1:List Int} {x2:List Ed} {x3:List (List Int)} {x4:List Int} {x14:List Sd}
theorem HdF.num (h:HdF x0 x1 x2 x3 x4 x14) {sh:Int} (h1:1<=sh) (h2:sh<=x3.length):IntKind.wrap .i64 (sh-1)=sh-1/\0<=sh-1/\sh-1<x4.length/\x4[(sh-1).toNat]?=some (x4.getD (sh-1).toNat 0)/\IntKind.wrap .i64 (x4.getD (sh-1).toNat 0+1)=x4.getD (sh-1).toNat 0+1:=by
 have hk:=h.k
 have hn:=h.nums
 have h3:=h.o3 (sh-1).toNat (by omega)
 exact ⟨wr (by omega) (by omega),by omega,by omega,getD_at (by omega),wr (by omega) (by omega)⟩
theorem HdF.at (h:HdF x0 x1 x2 x3 x4 x14) {v:Int} (h1:0<=v) (h2:v<=x0-1):v<x1.length/\x1[v.toNat]?=some (x1.getD v.toNat 0)/\1<=x1.getD v.toNat 0/\x1.getD v.toNat 0<=x3.length:=by
 have ho:=h.own
 have:=h.o1 v.toNat (by omega)
 exact ⟨by omega,getD_at (by omega),this.1,this.2⟩
end
theorem loop_bind {X B C:Type} {F:(X->Option B)->X->Option B} (I:X->Prop) (μ:X->Nat) (Q:X->B->Prop) (P:Option C->Prop) {x:X} {k:B->Option C} (hx:μ x<BIG) (hi:I x)
  (h:∀self x,I x->(∀y,I y->μ y<μ x->∃b,self y=some b/\Q y b)->∃b,F self x=some b/\Q x b) (hk:∀b,Q x b->P (k b)):P (Option.bind (loopT BIG F x) k):=by
 obtain ⟨b,h1,h2⟩:=loop_rel (F:=F) I μ Q h hx hi
 rw [h1]
 exact hk b h2
theorem h_lsameInts (a b:List Int) (ha:a.length<=maxLen):g_lsameInts (a,b)=some (decide (a=b),()):=by
 rw [<-h_sl05SameInts a b ha]
 show f_lsameInts BIG _=f_sl05SameInts BIG _
 rw [e_lsameInts,e_sl05SameInts]
 all_goals rfl
theorem w_isameInts (a b:List Int) (ha:a.length<=maxLen):g_isameInts (a,b)=some (decide (a=b),()):=by
 rw [<-h_sl05SameInts a b ha]
 show f_isameInts BIG _=f_sl05SameInts BIG _
 rw [e_isameInts,e_sl05SameInts]
 all_goals rfl
theorem h_sDrawPlaces (a:List Int) (ha:a.length<=1048576):∃p,g_sDrawPlaces a=some (p,())/\p.length=12/\∀x,x∈p->0<=x/\x<10000:=by
 have hm:maxLen=9223372036854775807:=by decide
 have e:g_sDrawPlaces a=f_sDrawPlaces BIG a:=rfl
 rw [e,e_sDrawPlaces]
 obtain ⟨c,k,o⟩:=h_sl01New a ha
 obtain ⟨b,c1,k1,o1,_⟩:=h_sl01Byte c o
 rw [k,Option.bind_some,k1,Option.bind_some]
 refine loop_bind (P:=fun o=>∃p:List Int,o=some (p,())/\p.length=12/\∀x,x∈p->0<=x/\x<10000) (fun (x:List Int × Cur × Int)=>∃i:Nat,x.2.2=(i:Int)/\i<=12/\x.1.length=i/\curOk x.2.1/\∀y,y∈x.1->0<=y/\y<10000) (fun x=>12-x.2.2.toNat) (fun _ (b:List Int)=>b.length=12/\∀x,x∈b->0<=x/\x<10000) (by simp [BIG]) ⟨0,rfl,by omega,rfl,o1,fun y hy=>by cases hy⟩ (fun self x ⟨i,h1,h2,h3,h4,h5⟩ hs => ?_) (fun b h=>⟨b,rfl,h⟩)
 obtain ⟨s,cu,j⟩:=x
 simp only at h1 h3 h4 h5
 subst h1
 by_cases hi:i<12
 ·simp only [show ((i:Int)<12) from by omega,decide_true,cond_true]
  obtain ⟨r,c2,k2,o2,r0,r1,_⟩:=h_sl01Below cu 10000 h4 (by decide)
  rw [k2,Option.bind_some,decide_eq_true (by simp only [List.length_cons,List.length_nil];omega),cond_true,wr1 (by omega)]
  refine hs _ ⟨i+1,rfl,hi,by simp only [List.length_append,List.length_cons,List.length_nil];omega,o2,fun y hy => ?_⟩ (by simp;omega)
  simp only [List.mem_append,List.mem_singleton] at hy
  rcases hy with hy|rfl
  ·exact h5 y hy
  ·exact ⟨r0,r1 (by decide)⟩
 ·have:i=12:=by omega
  subst this
  simp only [show ¬(((12:Nat):Int)<12) from by omega,decide_false,cond_false]
  exact ⟨_,rfl,h3,h5⟩
theorem GrOk.sub {n:Int} {es A:List Ed} (h:GrOk n es) (hs:A.Sublist es):GrOk n A:=⟨h.1,h.2.1,h.2.2.1.sublist hs,fun e he=>h.2.2.2 e (hs.subset he)⟩
theorem srt_nodup {es:List Ed} (h:Srt es):es.Nodup:=by
 refine List.Pairwise.imp (fun {a b} hab => ?_) h
 rintro rfl
 rw [lsB_irrefl] at hab;cases hab
inductive FT where
 | nil
 | nd (v:Int) (c s:FT)
def FT.vs:FT->List Int
 | .nil=>[]
 | .nd v c s=>v::(c.vs++s.vs)
def FT.sg:FT->Int->List Int
 | .nil,_=>[]
 | .nd v c s,r=>v::(c.sg v++r::s.sg r)
def FT.app:FT->FT->FT
 | .nil,g=>g
 | .nd v c s,g=>.nd v c (s.app g)
def tr (v:Int) (c:FT):List Int:=v::c.sg v
theorem sg_app (r:Int) (g:FT):∀f:FT,(f.app g).sg r=f.sg r++g.sg r
 | .nil=>rfl
 | .nd v c s=>by
  have:=sg_app r g s
  simp [FT.app,FT.sg,this]
theorem vs_app (g:FT):∀f:FT,(f.app g).vs=f.vs++g.vs
 | .nil=>rfl
 | .nd v c s=>by
  have:=vs_app g s
  simp [FT.app,FT.vs,this]
theorem sg_len:∀(f:FT) (r:Int),(f.sg r).length=2*f.vs.length
 | .nil,_=>rfl
 | .nd v c s,r=>by
  have:=sg_len c v
  have:=sg_len s r
  simp only [FT.sg,FT.vs,List.length_cons,List.length_append];omega
theorem sg_last:∀(f:FT) (r:Int),f.sg r=[]\/∃L,f.sg r=L++[r]
 | .nil,_=>.inl rfl
 | .nd v c s,r=>by
  right
  rcases sg_last s r with h|⟨L,h⟩
  ·exact ⟨v::c.sg v,by simp [FT.sg,h]⟩
  ·exact ⟨v::(c.sg v++r::L),by simp [FT.sg,h]⟩
theorem tr_last (v:Int) (c:FT):∃L,tr v c=L++[v]:=by
 rcases sg_last c v with h|⟨L,h⟩
 ·exact ⟨[],by simp [tr,h]⟩
 ·exact ⟨v::L,by simp [tr,h]⟩
theorem tr_len (v:Int) (c:FT):(tr v c).length=2*c.vs.length+1:=by
 simp [tr,sg_len]
theorem sg_mem:∀(f:FT) (r x:Int),x∈f.sg r↔x∈f.vs\/(x=r/\f.vs≠[])
 | .nil,r,x=>by simp [FT.sg,FT.vs]
 | .nd v c s,r,x=>by
  have h1:=sg_mem c v x
  have h2:=sg_mem s r x
  simp only [FT.sg,FT.vs,List.mem_cons,List.mem_append,h1,h2]
  constructor
  ·rintro (h | (h|⟨h,_⟩)|h|h|⟨h,_⟩)
   ·exact .inl (.inl h)
   ·exact .inl (.inr (.inl h))
   ·exact .inl (.inl h)
   ·exact .inr ⟨h,by simp⟩
   ·exact .inl (.inr (.inr h))
   ·exact .inr ⟨h,by simp⟩
  ·rintro ((h|h|h)|⟨h,_⟩)
   ·exact .inl h
   ·exact .inr (.inl (.inl h))
   ·exact .inr (.inr (.inr (.inl h)))
   ·exact .inr (.inr (.inl h))
theorem tr_mem (v:Int) (c:FT) (x:Int):x∈tr v c↔x∈v::c.vs:=by
 simp only [tr,List.mem_cons,sg_mem]
 constructor
 ·rintro (h|h|⟨h,_⟩)
  ·exact .inl h
  ·exact .inr h
  ·exact .inl h
 ·rintro (h|h)
  ·exact .inl h
  ·exact .inr (.inl h)
def tStep (s:List Int × List Int) (v:Int):Option (List Int × List Int):=
 if 1<s.1.length/\s.1.getD (s.1.length-2) 0=v then some (s.1.take (s.1.length-1),s.2)
 else if (0<=v/\v<=11)/\v∉s.2 then some (s.1++[v],s.2++[v]) else none
theorem fM_app {S α:Type} (st:S->α->Option S):∀(a b:List α) (s:S),fM st s (a++b)=(fM st s a).bind fun s'=>fM st s' b
 | [],b,s=>rfl
 | x::a,b,s=>by
  rw [List.cons_append,fM,fM]
  cases st s x with
  | none=>rfl
  | some s'=>simp only [Option.bind_some,fM_app st a b]
theorem run_sg:∀(f:FT) (r:Int) (P M:List Int),(∀x,x∈P->x∈M)->(∀x,x∈f.vs->x∉M)->f.vs.Nodup->(∀x,x∈f.vs->0<=x/\x<=11)->r∈M->fM tStep (P++[r],M) (f.sg r)=some (P++[r],M++f.vs)
 | .nil,r,P,M,_,_,_,_,_=>by simp [FT.sg,FT.vs,fM]
 | .nd v c s,r,P,M,hP,hd,hn,hr,hrM=>by
  simp only [FT.vs] at hd hn hr ⊢
  rw [List.nodup_cons,List.mem_append,not_or,List.nodup_append] at hn
  obtain ⟨⟨n1,n2⟩,n3,n4,n5⟩:=hn
  have hv:=hd v (List.mem_cons_self ..)
  have s1:tStep (P++[r],M) v=some (P++[r]++[v],M++[v]):=by
   unfold tStep
   rw [if_neg,if_pos ⟨hr v (List.mem_cons_self ..),hv⟩]
   rintro ⟨g1,g2⟩
   simp only [List.length_append,List.length_cons,List.length_nil] at g1 g2
   have hlt:P.length+(0+1)-2<P.length:=by omega
   have:(P++[r])[P.length+(0+1)-2]?=some P[P.length+(0+1)-2]:=by
    rw [List.getElem?_append_left hlt,List.getElem?_eq_getElem hlt]
   rw [gD this] at g2
   exact hv (hP v (by rw [<-g2];exact List.getElem_mem _))
  have s2:=run_sg c v (P++[r]) (M++[v]) (fun x hx=>by
   rw [List.mem_append,List.mem_singleton] at hx ⊢
   rcases hx with hx|rfl
   ·exact .inl (hP x hx)
   ·exact .inl hrM) (fun x hx hm=>by
   rw [List.mem_append,List.mem_singleton] at hm
   rcases hm with hm|rfl
   ·exact hd x (List.mem_cons_of_mem _ (List.mem_append_left _ hx)) hm
   ·exact n1 hx) n3 (fun x hx=>hr x (List.mem_cons_of_mem _ (List.mem_append_left _ hx))) (by simp)
  have s3:tStep (P++[r]++[v],M++[v]++c.vs) r=some (P++[r],M++[v]++c.vs):=by
   unfold tStep
   rw [if_pos]
   ·have:(P++[r]++[v]).take ((P++[r]++[v]).length-1)=P++[r]:=by
     rw [show (P++[r]++[v]).length-1=(P++[r]).length from by simp,List.take_left]
    simp only
    rw [this]
   ·simp only [List.length_append,List.length_cons,List.length_nil]
    refine ⟨by omega,?_⟩
    have:(P++[r]++[v])[P.length+(0+1)+(0+1)-2]?=some r:=by
     rw [List.getElem?_append_left (by simp),show P.length+(0+1)+(0+1)-2=P.length from by omega]
     simp
    exact gD this
  have s4:=run_sg s r P (M++[v]++c.vs) (fun x hx=>by simp [hP x hx]) (fun x hx hm=>by
   rw [List.mem_append,List.mem_append,List.mem_singleton] at hm
   rcases hm with (hm|rfl)|hm
   ·exact hd x (List.mem_cons_of_mem _ (List.mem_append_right _ hx)) hm
   ·exact n2 hx
   ·exact n5 x hm x hx rfl) n4 (fun x hx=>hr x (List.mem_cons_of_mem _ (List.mem_append_right _ hx))) (by simp [hrM])
  simp only [FT.sg]
  rw [fM,s1,Option.bind_some,fM_app,s2,Option.bind_some,fM,s3,Option.bind_some,s4]
  simp
structure TrOk (v:Int) (c:FT):Prop where
 nd:(v::c.vs).Nodup
 rg:∀x,x∈v::c.vs->0<=x/\x<=11
theorem nodup_le:∀(n:Nat) (l:List Int),l.Nodup->(∀x,x∈l->0<=x/\x<n)->l.length<=n
 | 0,l,_,h=>by
  cases l with
  | nil=>simp
  | cons x l=>have:=h x (List.mem_cons_self ..);omega
 | n+1,l,hn,h=>by
  have h1:=nodup_le n (l.erase (n:Int)) (hn.erase _) (fun x hx=>by
   have h2:=(hn.mem_erase_iff).1 hx
   have:=h x h2.2
   have:=h2.1
   omega)
  have h2:=List.length_erase (a:=(n:Int)) (l:=l)
  split at h2
  ·rw [h2] at h1;omega
  ·rw [h2] at h1;omega
theorem TrOk.len {v:Int} {c:FT} (h:TrOk v c):c.vs.length<=11:=by
 have:=nodup_le 12 (v::c.vs) h.nd (fun x hx=>by have:=h.rg x hx;omega)
 simp only [List.length_cons] at this
 omega
theorem TrOk.run {v:Int} {c:FT} (h:TrOk v c):fM tStep ([v],[v]) (c.sg v)=some ([v],v::c.vs):=by
 have hn:=h.nd
 rw [List.nodup_cons] at hn
 have:=run_sg c v [] [v] (by simp) (fun x hx hm=>by rw [List.mem_singleton] at hm;subst hm;exact hn.1 hx) hn.2 (fun x hx=>h.rg x (List.mem_cons_of_mem _ hx)) (by simp)
 simpa using this
theorem hiLoop {α B:Type} (a:List α) (hl:a.length<18446744073709551616) (p:α->Bool) (b:B) {F:(Int->Option (Unit ⊕ B))->Int->Option (Unit ⊕ B)}
  (hF:∀self (i:Nat) y,a[i]?=some y->F self (i:Int)=if p y then some (.inr b) else self ((i+1:Nat):Int))
  (hE:∀self,F self (a.length:Int)=some (.inl ())):loopT BIG F 0=some (if a.any p=true then .inr b else .inl ()):=by
 refine loop_eq (fun (x:Int)=>∃i:Nat,x=(i:Int)/\i<=a.length/\∀j (hj:j<a.length),j<i->p a[j]=false) (fun x=>a.length-x.toNat) (fun _=>_) (fun self x ⟨i,h1,h2,h3⟩ hs => ?_) (n:=BIG) (x:=0) (by simp;exact hl) ⟨0,rfl,by simp,fun j _ hj=>by omega⟩
 subst h1
 by_cases hi:i<a.length
 ·rw [hF self i a[i] (List.getElem?_eq_getElem hi)]
  cases hp:p a[i] with
  | true=>rw [if_pos rfl,if_pos (List.any_eq_true.2 ⟨a[i],List.getElem_mem hi,hp⟩)]
  | false=>
   rw [if_neg (by simp)]
   refine hs _ ⟨i+1,rfl,hi,fun j hj hji => ?_⟩ (by simp;omega)
   by_cases hij:j=i
   ·subst hij;exact hp
   ·exact h3 j hj (by omega)
 ·have:i=a.length:=by omega
  subst this
  rw [hE,if_neg]
  intro h
  obtain ⟨y,hy,hp⟩:=List.any_eq_true.1 h
  obtain ⟨j,hj,rfl⟩:=List.getElem_of_mem hy
  rw [h3 j hj hj] at hp;cases hp
inductive De (pa:Int->Int->Prop) (v:Int):Int->Prop
 | refl:De pa v v
 | step {a x:Int}:De pa v a->pa a x->De pa v x
structure Fo (n:Nat) (es:List Ed) (pa:Int->Int->Prop) (rk:Int->Nat):Prop where
 rg:∀{a b},pa a b->(0<=a/\a<n)/\(0<=b/\b<n)
 ad:∀u v,((if v<u then (v,u) else (u,v))∈es)↔(pa u v\/pa v u)
 un:∀{a a' b},pa a b->pa a' b->a=a'
 up:∀{a b},pa a b->rk a<rk b
section
variable {n:Nat} {es:List Ed} {pa:Int->Int->Prop} {rk:Int->Nat} (F:Fo n es pa rk)
include F
omit F in
theorem De.trans {u v x:Int} (h:De pa u v) (h2:De pa v x):De pa u x:=by
 induction h2 with
 | refl=>exact h
 | step _ h2 ih=>exact .step ih h2
def Nb (pa:Int->Int->Prop) (v fr u:Int):Prop:=u≠fr/\(pa u v\/pa v u)
omit F in
theorem getD_set_b {l:List Bool} {i j:Nat} (hi:i<l.length):(l.set i true).getD j false=true↔l.getD j false=true\/j=i:=by
 by_cases h:i=j
 ·subst h
  rw [gD (List.getElem?_set_self hi)]
  simp
 ·simp only [List.getD_eq_getElem?_getD,List.getElem?_set_ne h]
  constructor
  ·exact .inl
  ·rintro (h'|h')
   ·exact h'
   ·exact absurd h'.symm h
end
structure TreeEs (n:Int) (es:List Ed):Prop where
 rg:∀e,e∈es->0<=e.1/\e.1<e.2/\e.2<n
 un:∀e e',e∈es->e'∈es->e.2=e'.2->e.1=e'.1
theorem TreeEs.fo {n:Nat} {es:List Ed} (h:TreeEs n es):Fo n es (fun a b=>(a,b)∈es) Int.toNat where
 rg:=fun {a b} hab=>by
  have:=h.rg _ hab
  simp only at this
  omega
 ad:=fun u v=>by
  by_cases hvu:v<u
  ·rw [if_pos hvu]
   constructor
   ·exact .inr
   ·rintro (h1|h1)
    ·have:=h.rg _ h1
     simp only at this;omega
    ·exact h1
  ·rw [if_neg hvu]
   constructor
   ·exact .inl
   ·rintro (h1|h1)
    ·exact h1
    ·have:=h.rg _ h1
     simp only at this;omega
 un:=fun {a a' b} h1 h2=>h.un _ _ h1 h2 rfl
 up:=fun {a b} hab=>by
  have:=h.rg _ hab
  simp only at this
  omega
theorem TreeEs.ed {n:Nat} {es:List Ed} (h:TreeEs n es) (h1:1<=n) (h2:n<=12):∀e,e∈es->edB n e=true:=by
 intro e he
 have:=h.rg e he
 unfold edB
 simp only [Bool.and_eq_true,inB_t,decide_eq_true_eq]
 omega
theorem tr_closed (v:Int) (c:FT):(tr v c)[(tr v c).length-1]?=(tr v c)[0]?:=by
 obtain ⟨L,hL⟩:=tr_last v c
 have h0:(tr v c)[0]?=some v:=rfl
 rw [h0,hL]
 simp
structure SpF (r:Int) (F:FT) (k:Nat) (X:List Int) (p w:Int) (C:FT) (Y:List Int) (F':FT):Prop where
 e1:tr r F=X++p::(tr w C++p::Y)
 e2:tr r F'=X++p::Y
 pm:F.vs.Perm ((w::C.vs)++F'.vs)
 at':k=X.length\/k=X.length+(tr w C).length
section
variable {r:Int} {F:FT} {k:Nat} {X:List Int} {p w:Int} {C:FT} {Y:List Int} {F':FT}
theorem SpF.perm (h:SpF r F k X p w C Y F'):(r::F.vs).Perm ((w::C.vs)++(r::F'.vs)):=(List.Perm.cons _ h.pm).trans List.perm_middle.symm
theorem SpF.nd (h:SpF r F k X p w C Y F') (ht:TrOk r F):TrOk w C/\TrOk r F'/\∀x,x∈tr w C->x∉tr r F':=by
 have hn:=h.perm.nodup_iff.1 ht.nd
 rw [List.nodup_append] at hn
 obtain ⟨n1,n2,n3⟩:=hn
 exact ⟨⟨n1,fun x hx=>ht.rg x (h.perm.mem_iff.2 (List.mem_append_left _ hx))⟩,⟨n2,fun x hx=>ht.rg x (h.perm.mem_iff.2 (List.mem_append_right _ hx))⟩,
  fun x hx hx'=>n3 x ((tr_mem _ _ _).1 hx) x ((tr_mem _ _ _).1 hx') rfl⟩
theorem SpF.len (h:SpF r F k X p w C Y F'):(tr r F).length=X.length+(tr w C).length+Y.length+2/\(tr r F').length=X.length+Y.length+1:=by
 rw [h.e1,h.e2]
 simp only [List.length_append,List.length_cons]
 omega
theorem SpF.out1 (h:SpF r F k X p w C Y F') {m:Nat} (hm:m<X.length):∃x,(tr r F)[m]?=some x/\x∈tr r F':=by
 refine ⟨X[m],?_,?_⟩
 ·rw [h.e1,List.getElem?_append_left hm,List.getElem?_eq_getElem hm]
 ·rw [h.e2];exact List.mem_append_left _ (List.getElem_mem _)
theorem SpF.atD (h:SpF r F k X p w C Y F'):(tr r F)[X.length]?=some p:=by
 rw [h.e1,List.getElem?_append_right (Nat.le_refl _),Nat.sub_self];rfl
theorem SpF.inn (h:SpF r F k X p w C Y F') {m:Nat} (hm:m<(tr w C).length):(tr r F)[X.length+1+m]?=(tr w C)[m]?:=by
 rw [h.e1,List.getElem?_append_right (by omega),show X.length+1+m-X.length=m+1 from by omega,List.getElem?_cons_succ,List.getElem?_append_left hm]
theorem SpF.atU (h:SpF r F k X p w C Y F'):(tr r F)[X.length+(tr w C).length+1]?=some p:=by
 rw [h.e1,List.getElem?_append_right (by omega),show X.length+(tr w C).length+1-X.length=(tr w C).length+1 from by omega,List.getElem?_cons_succ,List.getElem?_append_right (Nat.le_refl _),Nat.sub_self];rfl
theorem SpF.out2 (h:SpF r F k X p w C Y F') {m:Nat} (hm:m<Y.length):∃x,(tr r F)[X.length+(tr w C).length+2+m]?=some x/\x∈tr r F':=by
 refine ⟨Y[m],?_,?_⟩
 ·rw [h.e1,List.getElem?_append_right (by omega),show X.length+(tr w C).length+2+m-X.length=((tr w C).length+1+m)+1 from by omega,List.getElem?_cons_succ,List.getElem?_append_right (by omega),show (tr w C).length+1+m-(tr w C).length=m+1 from by omega,List.getElem?_cons_succ,List.getElem?_eq_getElem hm]
 ·rw [h.e2];exact List.mem_append_right _ (List.mem_cons_of_mem _ (List.getElem_mem _))
theorem SpF.side (h:SpF r F k X p w C Y F') {m:Nat} (hm:m<(tr r F).length):∃x,(tr r F)[m]?=some x/\((X.length<m/\m<=X.length+(tr w C).length->x∈tr w C)/\(¬(X.length<m/\m<=X.length+(tr w C).length)->x∈tr r F')):=by
 have hl:=h.len.1
 have hp:p∈tr r F':=by rw [h.e2];simp
 by_cases h1:m<X.length
 ·obtain ⟨x,a,b⟩:=h.out1 h1
  exact ⟨x,a,fun g=>by omega,fun _=>b⟩
 by_cases h2:m=X.length
 ·subst h2;exact ⟨p,h.atD,fun g=>by omega,fun _=>hp⟩
 by_cases h3:m<=X.length+(tr w C).length
 ·have hlt:m-X.length-1<(tr w C).length:=by omega
  have:=h.inn hlt
  rw [show X.length+1+(m-X.length-1)=m from by omega,List.getElem?_eq_getElem hlt] at this
  exact ⟨_,this,fun _=>List.getElem_mem _,fun g=>by omega⟩
 by_cases h4:m=X.length+(tr w C).length+1
 ·subst h4;exact ⟨p,h.atU,fun g=>by omega,fun _=>hp⟩
 ·obtain ⟨x,a,b⟩:=h.out2 (m:=m-(X.length+(tr w C).length+2)) (by omega)
  rw [show X.length+(tr w C).length+2+(m-(X.length+(tr w C).length+2))=m from by omega] at a
  exact ⟨x,a,fun g=>by omega,fun _=>b⟩
end
theorem lb_len {n:Int} {l:List Int} (h:lbOk n l=true):(l.length:Int)=n:=by
 unfold lbOk at h
 split at h
 ·assumption
 ·cases h
theorem HdF.rows {x0:Int} {x1:List Int} {x2:List Ed} {x3:List (List Int)} {x4:List Int} {x14:List Sd} (h:HdF x0 x1 x2 x3 x4 x14):∀y,y∈x3->y.length<=12:=by
 intro y hy
 obtain ⟨i,hi,rfl⟩:=List.getElem_of_mem hy
 have h1:=(h.o3 i hi).1
 rw [gD (List.getElem?_eq_getElem hi)] at h1
 have:=lb_len h1
 have:=h.n
 omega
def FT.rts:FT->List Int
 | .nil=>[]
 | .nd v c s=>v::s.rts
theorem rts_app (g:FT):∀f:FT,(f.app g).rts=f.rts++g.rts
 | .nil=>rfl
 | .nd v c s=>by
  have:=rts_app g s
  simp [FT.app,FT.rts,this]
theorem rts_vs:∀(g:FT) {x:Int},x∈g.rts->x∈g.vs
 | .nil,x,h=>h
 | .nd v c s,x,h=>by
  simp only [FT.rts,List.mem_cons] at h
  simp only [FT.vs,List.mem_cons,List.mem_append]
  rcases h with h|h
  ·exact .inl h
  ·exact .inr (.inr (rts_vs s h))
def RtO (pa:Int->Int->Prop) (v fr:Int) (g:FT):Prop:=g.rts.Pairwise (· < ·)/\∀u,u∈g.rts↔Nb pa v fr u
def GF (pa:Int->Int->Prop):FT->Int->Prop
 | .nil,_=>True
 | .nd u c s,v=>(RtO pa u v c/\GF pa c u)/\GF pa s v
theorem GF_app {pa:Int->Int->Prop} {v:Int} {g:FT}:∀{f:FT},GF pa f v->GF pa g v->GF pa (f.app g) v
 | .nil,_,h=>h
 | .nd u c s,h,h'=>⟨h.1,GF_app h.2 h'⟩
def QF (pa:Int->Int->Prop) (v fr:Int) (i:Nat) (f:FT):Prop:=f.rts.Pairwise (· < ·)/\(∀u,u∈f.rts↔Nb pa v fr u/\u<i)/\GF pa f v
theorem qf_skip {pa:Int->Int->Prop} {v fr:Int} {i:Nat} {f:FT} (h:QF pa v fr i f) (hno:¬Nb pa v fr i):QF pa v fr (i+1) f:=by
 refine ⟨h.1,fun u => ?_,h.2.2⟩
 rw [h.2.1]
 constructor
 ·rintro ⟨h1,h2⟩;exact ⟨h1,by omega⟩
 ·rintro ⟨h1,h2⟩
  refine ⟨h1,?_⟩
  by_cases hu:u=(i:Int)
  ·subst hu;exact absurd h1 hno
  ·omega
theorem qf_put {pa:Int->Int->Prop} {v fr:Int} {i:Nat} {f g:FT} (h:QF pa v fr i f) (hnb:Nb pa v fr i) (hg:RtO pa i v g) (hg':GF pa g i):QF pa v fr (i+1) (f.app (.nd i g .nil)):=by
 refine ⟨?_,fun u => ?_,GF_app h.2.2 ⟨⟨hg,hg'⟩,trivial⟩⟩
 ·rw [rts_app]
  simp only [FT.rts]
  rw [List.pairwise_append]
  refine ⟨h.1,by simp,fun a ha b hb => ?_⟩
  rw [List.mem_singleton] at hb
  subst hb
  exact ((h.2.1 a).1 ha).2
 ·rw [rts_app,List.mem_append,h.2.1]
  simp only [FT.rts,List.mem_singleton]
  constructor
  ·rintro (⟨h1,h2⟩|rfl)
   ·exact ⟨h1,by omega⟩
   ·exact ⟨hnb,by omega⟩
  ·rintro ⟨h1,h2⟩
   by_cases hu:u=(i:Int)
   ·exact .inr hu
   ·exact .inl ⟨h1,by omega⟩
theorem edB_f {n:Nat} {e:Ed} (h:edB n e=true):0<=e.1/\e.1<e.2/\e.2<n:=by
 unfold edB at h
 simp only [Bool.and_eq_true,inB_t,decide_eq_true_eq] at h
 omega
theorem w_irings (n:Nat) (es:List Ed) (h1:1<=n) (hn:n<=12) (hes:es.length<=1000) (hE:∀e,e∈es->edB n e=true) :
  ∃b,g_irings ((n:Int),es)=some (b,())/\(b=true↔∃i,∃hi:i<es.length,Con (es.take i) es[i].1 es[i].2):=by
 have hm:maxLen=9223372036854775807:=by decide
 show ∃b,f_irings BIG _=_/\_
 rw [e_irings,h_ifirst n (by omega),Option.bind_some]
 refine loop_bind (P:=fun o=>∃b,o=some (b,())/\(b=true↔∃i,∃hi:i<es.length,Con (es.take i) es[i].1 es[i].2)) (fun (s:List Int × Int)=>∃i:Nat,s.2=(i:Int)/\i<=es.length/\Lab n (es.take i) s.1/\∀k,k<i->∀hk:k<es.length,¬Con (es.take k) es[k].1 es[k].2) (fun s=>es.length-s.2.toNat) (fun _ (b:Unit ⊕ Bool)=>(b = .inl ()/\∀k (hk:k<es.length),¬Con (es.take k) es[k].1 es[k].2)\/(b = .inr true/\∃i,∃hi:i<es.length,Con (es.take i) es[i].1 es[i].2)) (by simp [BIG];omega) ⟨0,rfl,by omega,Lab.zero n,fun k hk=>by omega⟩ (fun self s hx hs => ?_) (fun b hb => ?_)
 ·obtain ⟨l,j⟩:=s
  obtain ⟨i,h3,h4,h5,h6⟩:=hx
  simp only at h3 h4 h5 h6 hs ⊢
  subst h3
  by_cases hi:i<es.length
  ·simp only [show ((i:Int)<(es.length:Int)) from by omega,decide_true,cond_true]
   have he:=edB_f (hE _ (List.getElem_mem hi))
   have hll:=h5.1
   rw [bnd_nat hi,List.getElem?_eq_getElem hi,Option.bind_some,h_iunion l es[i].1 es[i].2 he.1 (by omega) (by omega) (by omega) (by omega),Option.bind_some]
   have hiff:=h5.iff (getD_at (show es[i].1.toNat<l.length by omega)) (getD_at (show es[i].2.toNat<l.length by omega))
   rw [Int.toNat_of_nonneg he.1,Int.toNat_of_nonneg (by omega:0<=es[i].2)] at hiff
   by_cases hq:l.getD es[i].1.toNat 0=l.getD es[i].2.toNat 0
   ·rw [decide_eq_true hq]
    exact ⟨_,rfl,.inr ⟨rfl,i,hi,hiff.1 hq⟩⟩
   ·rw [decide_eq_false hq]
    simp only [Bool.not_false,Bool.not_true,cond_false]
    rw [wr1 (by omega)]
    refine hs _ ⟨i+1,rfl,hi,?_,fun k hk hk' => ?_⟩ (by simp;omega)
    ·rw [List.take_succ_eq_append_getElem hi]
     exact h5.unE (e:=es[i]) ⟨he.1,by omega,by omega,he.2.2⟩
    ·by_cases hki:k=i
     ·subst hki;exact fun hc=>hq (hiff.2 hc)
     ·exact h6 k (by omega) hk'
  ·simp only [show ¬((i:Int)<(es.length:Int)) from by omega,decide_false,cond_false]
   exact ⟨_,rfl,.inl ⟨rfl,fun k hk=>h6 k (by omega) hk⟩⟩
 ·rcases hb with ⟨rfl,h⟩|⟨rfl,h⟩
  ·exact ⟨false,rfl,⟨(fun h=>by cases h),fun ⟨i,hi,hc⟩=>absurd hc (h i hi)⟩⟩
  ·exact ⟨true,rfl,⟨fun _=>h,fun _=>rfl⟩⟩
def FT.pr:FT->Int->List (Int × Int)
 | .nil,_=>[]
 | .nd w c s,r=>(r,w)::(c.pr w++s.pr r)
theorem pr_snd:∀(f:FT) (r:Int),(f.pr r).map (·.2)=f.vs
 | .nil,_=>rfl
 | .nd w c s,r=>by
  have h1:=pr_snd c w
  have h2:=pr_snd s r
  simp [FT.pr,FT.vs,h1,h2]
theorem pr_len (f:FT) (r:Int):(f.pr r).length=f.vs.length:=by rw [<-pr_snd f r,List.length_map]
theorem pr_in {f:FT} {r a b:Int} (h:(a,b)∈f.pr r):b∈f.vs:=by
 rw [<-pr_snd f r]
 exact List.mem_map.2 ⟨_,h,rfl⟩
theorem pr_fst:∀(f:FT) {r a b:Int},(a,b)∈f.pr r->a∈r::f.vs
 | .nil,r,a,b,h=>by cases h
 | .nd w c s,r,a,b,h=>by
  simp only [FT.pr,List.mem_cons,List.mem_append,Prod.mk.injEq] at h
  simp only [FT.vs,List.mem_cons,List.mem_append]
  rcases h with ⟨h,_⟩|h|h
  ·exact .inl h
  ·have:=pr_fst c h
   rw [List.mem_cons] at this
   rcases this with h|h
   ·exact .inr (.inl h)
   ·exact .inr (.inr (.inl h))
  ·have:=pr_fst s h
   rw [List.mem_cons] at this
   rcases this with h|h
   ·exact .inl h
   ·exact .inr (.inr (.inr h))
theorem pr_bef:∀(f:FT) (r:Int) {a b:Int},(a,b)∈f.pr r->∃X Y,r::f.vs=X++Y/\a∈X/\b∈Y
 | .nil,r,a,b,h=>by cases h
 | .nd w c s,r,a,b,h=>by
  simp only [FT.pr,List.mem_cons,List.mem_append,Prod.mk.injEq] at h
  rcases h with ⟨rfl,rfl⟩|h|h
  ·exact ⟨[a],b::(c.vs++s.vs),rfl,List.mem_cons_self ..,List.mem_cons_self ..⟩
  ·obtain ⟨X,Y,e,h1,h2⟩:=pr_bef c w h
   refine ⟨r::X,Y++s.vs,?_,List.mem_cons_of_mem _ h1,List.mem_append_left _ h2⟩
   have:r::(FT.nd w c s).vs=r::((w::c.vs)++s.vs):=rfl
   rw [this,e];simp
  ·obtain ⟨X,Y,e,h1,h2⟩:=pr_bef s r h
   cases X with
   | nil=>cases h1
   | cons x X=>
    simp only [List.cons_append,List.cons.injEq] at e
    obtain ⟨rfl,e⟩:=e
    refine ⟨r::w::(c.vs++X),Y,?_,?_,h2⟩
    ·have:r::(FT.nd w c s).vs=r::w::(c.vs++s.vs):=rfl
     rw [this,e];simp
    ·rw [List.mem_cons] at h1
     rcases h1 with h1|h1
     ·rw [h1];exact List.mem_cons_self ..
     ·exact List.mem_cons_of_mem _ (List.mem_cons_of_mem _ (List.mem_append_right _ h1))
theorem pr_rk {f:FT} {r:Int} (hn:(r::f.vs).Nodup) {a b:Int} (h:(a,b)∈f.pr r):(r::f.vs).idxOf a<(r::f.vs).idxOf b:=by
 obtain ⟨X,Y,e,h1,h2⟩:=pr_bef f r h
 rw [e] at hn ⊢
 rw [List.nodup_append] at hn
 have hb:b∉X:=fun h=>hn.2.2 b h b h2 rfl
 rw [List.idxOf_append,List.idxOf_append,if_pos h1,if_neg hb]
 have:=List.idxOf_lt_length_of_mem h1
 omega
theorem snd_un:∀{l:List (Int × Int)} {a a' b:Int},(l.map (·.2)).Nodup->(a,b)∈l->(a',b)∈l->a=a'
 | [],_,_,_,_,h,_=>by cases h
 | x::l,a,a',b,hn,h,h'=>by
  rw [List.map_cons,List.nodup_cons] at hn
  rw [List.mem_cons] at h h'
  rcases h with rfl|h
  ·rcases h' with h'|h'
   ·cases h';rfl
   ·exact absurd (List.mem_map.2 ⟨_,h',rfl⟩) hn.1
  ·rcases h' with rfl|h'
   ·exact absurd (List.mem_map.2 ⟨_,h,rfl⟩) hn.1
   ·exact snd_un hn.2 h h'
theorem tr_nd (r w:Int) (c s:FT):tr r (.nd w c s)=r::(tr w c++tr r s):=by simp [tr,FT.sg]
theorem tr_l (r:Int) (c:FT):(tr r c)[(tr r c).length-1]?=some r:=by rw [tr_closed];rfl
theorem split_pr:∀(f:FT) (r:Int) (k:Nat),k+1<(tr r f).length->∃p w,(p,w)∈f.pr r/\(((tr r f)[k]?=some p/\(tr r f)[k+1]?=some w)\/((tr r f)[k]?=some w/\(tr r f)[k+1]?=some p))
 | .nil,r,k,h=>by simp [tr,FT.sg] at h
 | .nd w c s,r,k,h=>by
  rw [tr_nd] at h ⊢
  have hw:1<=(tr w c).length:=by simp [tr]
  simp only [List.length_cons,List.length_append] at h
  rw [List.getElem?_cons_succ]
  by_cases h0:k=0
  ·subst h0
   refine ⟨r,w,List.mem_cons_self ..,.inl ⟨rfl,?_⟩⟩
   rw [List.getElem?_append_left (by omega)];rfl
  ·obtain ⟨k,rfl⟩:∃k',k=k'+1:=⟨k-1,by omega⟩
   rw [List.getElem?_cons_succ]
   by_cases h1:k+1<(tr w c).length
   ·obtain ⟨p,x,g1,g2⟩:=split_pr c w k h1
    refine ⟨p,x,List.mem_cons_of_mem _ (List.mem_append_left _ g1),?_⟩
    rw [List.getElem?_append_left (by omega),List.getElem?_append_left h1]
    exact g2
   ·by_cases h2:k+1=(tr w c).length
    ·refine ⟨r,w,List.mem_cons_self ..,.inr ⟨?_,?_⟩⟩
     ·rw [List.getElem?_append_left (by omega),show k=(tr w c).length-1 from by omega]
      exact tr_l w c
     ·rw [List.getElem?_append_right (by omega),h2,Nat.sub_self];rfl
    ·obtain ⟨p,x,g1,g2⟩:=split_pr s r (k-(tr w c).length) (by omega)
     refine ⟨p,x,List.mem_cons_of_mem _ (List.mem_append_right _ g1),?_⟩
     rw [List.getElem?_append_right (by omega),List.getElem?_append_right (by omega),show k+1-(tr w c).length=k-(tr w c).length+1 from by omega]
     exact g2
theorem pr_at:∀(f:FT) (r p w:Int),(p,w)∈f.pr r->(∃k,(tr r f)[k]?=some p/\(tr r f)[k+1]?=some w)/\(∃k,(tr r f)[k]?=some w/\(tr r f)[k+1]?=some p)
 | .nil,r,p,w,h=>by cases h
 | .nd u c s,r,p,w,h=>by
  rw [tr_nd]
  have hw:1<=(tr u c).length:=by simp [tr]
  have inA:∀{x y:Int},(∃k,(tr u c)[k]?=some x/\(tr u c)[k+1]?=some y)->∃k,(r::(tr u c++tr r s))[k]?=some x/\(r::(tr u c++tr r s))[k+1]?=some y:=by
   rintro x y ⟨k,h1,h2⟩
   have hk:=(List.getElem?_eq_some_iff.1 h2).1
   refine ⟨k+1,?_,?_⟩
   ·rw [List.getElem?_cons_succ,List.getElem?_append_left (by omega)];exact h1
   ·rw [List.getElem?_cons_succ,List.getElem?_append_left hk];exact h2
  have inB:∀{x y:Int},(∃k,(tr r s)[k]?=some x/\(tr r s)[k+1]?=some y)->∃k,(r::(tr u c++tr r s))[k]?=some x/\(r::(tr u c++tr r s))[k+1]?=some y:=by
   rintro x y ⟨k,h1,h2⟩
   refine ⟨(tr u c).length+k+1,?_,?_⟩
   ·rw [List.getElem?_cons_succ,List.getElem?_append_right (by omega),show (tr u c).length+k-(tr u c).length=k from by omega];exact h1
   ·rw [List.getElem?_cons_succ,List.getElem?_append_right (by omega),show (tr u c).length+k+1-(tr u c).length=k+1 from by omega];exact h2
  simp only [FT.pr,List.mem_cons,List.mem_append,Prod.mk.injEq] at h
  rcases h with ⟨rfl,rfl⟩|h|h
  ·constructor
   ·refine ⟨0,rfl,?_⟩
    rw [List.getElem?_cons_succ,List.getElem?_append_left (by omega)];rfl
   ·refine ⟨(tr w c).length,?_,?_⟩
    ·rw [show (tr w c).length=((tr w c).length-1)+1 from by omega,List.getElem?_cons_succ,List.getElem?_append_left (by omega)]
     exact tr_l w c
    ·rw [List.getElem?_cons_succ,List.getElem?_append_right (Nat.le_refl _),Nat.sub_self];rfl
  ·obtain ⟨h1,h2⟩:=pr_at c u p w h
   exact ⟨inA h1,inA h2⟩
  ·obtain ⟨h1,h2⟩:=pr_at s r p w h
   exact ⟨inB h1,inB h2⟩
theorem pr_reach:∀(f:FT) (r:Int) (S:Int->Prop),S r->(∀a b,(a,b)∈f.pr r->S a->S b)->∀x,x∈f.vs->S x
 | .nil,_,_,_,_,x,h=>by cases h
 | .nd w c s,r,S,hr,hs,x,h=>by
  have hw:S w:=hs r w (List.mem_cons_self ..) hr
  simp only [FT.vs,List.mem_cons,List.mem_append] at h
  rcases h with rfl|h|h
  ·exact hw
  ·exact pr_reach c w S hw (fun a b hab=>hs a b (List.mem_cons_of_mem _ (List.mem_append_left _ hab))) x h
  ·exact pr_reach s r S hr (fun a b hab=>hs a b (List.mem_cons_of_mem _ (List.mem_append_right _ hab))) x h
theorem nodup_sub {α:Type} [DecidableEq α]:∀(l1 l2:List α),l1.Nodup->(∀x,x∈l1->x∈l2)->l1.length<=l2.length
 | [],l2,_,_=>by simp
 | x::l1,l2,hn,h=>by
  rw [List.nodup_cons] at hn
  have hx:=h x (List.mem_cons_self ..)
  have:=nodup_sub l1 (l2.erase x) hn.2 fun y hy=>(List.mem_erase_of_ne (by rintro rfl;exact hn.1 hy)).2 (h y (List.mem_cons_of_mem _ hy))
  rw [List.length_erase_of_mem hx] at this
  have:=List.length_pos_of_mem hx
  simp only [List.length_cons];omega
theorem nodup_mp {α β:Type} (f:α->β):∀(l:List α),l.Nodup->(∀x,x∈l->∀y,y∈l->f x=f y->x=y)->(l.map f).Nodup
 | [],_,_=>by simp
 | x::l,hn,h=>by
  rw [List.nodup_cons] at hn
  rw [List.map_cons,List.nodup_cons]
  refine ⟨fun hm => ?_,nodup_mp f l hn.2 fun a ha b hb=>h a (List.mem_cons_of_mem _ ha) b (List.mem_cons_of_mem _ hb)⟩
  obtain ⟨y,hy,e⟩:=List.mem_map.1 hm
  have:=h y (List.mem_cons_of_mem _ hy) x (List.mem_cons_self ..) e
  subst this
  exact hn.1 hy
theorem GF_closed {pa:Int->Int->Prop}:∀(c:FT) (u:Int),GF pa c u->∀y,y∈c.vs->∀z,(pa z y\/pa y z)->z∈c.vs\/z=u
 | .nil,_,_,y,h,_,_=>by cases h
 | .nd w c s,u,⟨⟨hR,hG⟩,hS⟩,y,h,z,hz=>by
  simp only [FT.vs,List.mem_cons,List.mem_append] at h ⊢
  rcases h with rfl|h|h
  ·by_cases hzu:z=u
   ·exact .inr hzu
   ·exact .inl (.inr (.inl (rts_vs c ((hR.2 z).2 ⟨hzu,hz⟩))))
  ·rcases GF_closed c w hG y h z hz with h1|h1
   ·exact .inl (.inr (.inl h1))
   ·exact .inl (.inl h1)
  ·rcases GF_closed s u hS y h z hz with h1|h1
   ·exact .inl (.inr (.inr h1))
   ·exact .inr h1
theorem h_lhas (l:List Ed) (e:Ed) (hl:l.length<=1048576):g_lhas (l,e)=some (decide (e∈l),()):=by
 have hm:maxLen=9223372036854775807:=by decide
 show f_lhas BIG _=_
 rw [e_lhas,hiLoop l (by omega) (fun y=>decide (y.1=e.1)&&(decide (y.2=e.2)&&true)) true (fun self i y hy => ?_) (fun self=>by simp)]
 ·rw [Option.bind_some]
  have:l.any (fun y=>decide (y.1=e.1)&&(decide (y.2=e.2)&&true))=true↔e∈l:=by
   rw [List.any_eq_true]
   constructor
   ·rintro ⟨y,hy,h⟩
    simp only [Bool.and_eq_true,decide_eq_true_eq,and_true] at h
    have:y=e:=Prod.ext h.1 h.2
    rw [<-this];exact hy
   ·exact fun h=>⟨e,h,by simp⟩
  by_cases h:e∈l
  ·rw [if_pos (this.2 h),decide_eq_true h]
  ·rw [if_neg (fun h'=>h (this.1 h')),decide_eq_false h]
 ·have hi:=(List.getElem?_eq_some_iff.1 hy).1
  simp only [show ((i:Int)<(l.length:Int)) from by omega,decide_true,cond_true]
  rw [bnd_nat hi,hy,Option.bind_some,wr1 (by omega)]
  cases (decide (y.1=e.1)&&(decide (y.2=e.2)&&true))<;>rfl
structure TrE (v:Int) (f:FT) (E:List Ed):Prop where
 nd:E.Nodup
 mem:∀a b,(a,b)∈E↔a<b/\((a,b)∈f.pr v\/(b,a)∈f.pr v)
section
variable {v:Int} {f:FT} {E:List Ed} (ht:TrOk v f) (hE:TrE v f E)
include ht
theorem pr_uni {a a' b:Int} (h:(a,b)∈f.pr v) (h':(a',b)∈f.pr v):a=a':=snd_un (by rw [pr_snd];exact (List.nodup_cons.1 ht.nd).2) h h'
include hE
theorem TrE.fo:Fo 12 E (fun a b=>(a,b)∈f.pr v) (fun x=>(v::f.vs).idxOf x) where
 rg:=fun {a b} h=>by
  have h1:=ht.rg a (pr_fst f h)
  have h2:=ht.rg b (List.mem_cons_of_mem _ (pr_in h))
  omega
 ad:=fun u x=>by
  by_cases hxu:x<u
  ·rw [if_pos hxu,hE.mem]
   exact ⟨fun h=>h.2.symm,fun h=>⟨hxu,h.symm⟩⟩
  ·rw [if_neg hxu,hE.mem]
   refine ⟨fun h=>h.2,fun h=>⟨?_,h⟩⟩
   by_cases he:u=x
   ·subst he
    have:(u,u)∈f.pr v:=by rcases h with h|h<;>exact h
    have:=pr_rk ht.nd this
    omega
   ·omega
 un:=fun {a a' b} h h'=>pr_uni ht h h'
 up:=fun {a b} h=>pr_rk ht.nd h
theorem TrE.edB:∀e,e∈E->edB (12:Nat) e=true:=by
 rintro ⟨a,b⟩ he
 have h:=(hE.mem a b).1 he
 have ha:a∈v::f.vs:=by
  rcases h.2 with h|h
  ·exact pr_fst f h
  ·exact List.mem_cons_of_mem _ (pr_in h)
 have hb:b∈v::f.vs:=by
  rcases h.2 with h|h
  ·exact List.mem_cons_of_mem _ (pr_in h)
  ·exact pr_fst f h
 have h1:=ht.rg a ha
 have h2:=ht.rg b hb
 unfold Go.Fw.edB
 simp only [Bool.and_eq_true,inB_t,decide_eq_true_eq]
 omega
theorem TrE.len:E.length=f.vs.length:=by
 rw [<-pr_len f v]
 have hprn:(f.pr v).Nodup:=by
  have:((f.pr v).map (·.2)).Nodup:=by rw [pr_snd];exact (List.nodup_cons.1 ht.nd).2
  exact List.Pairwise.of_map (·.2) (fun a b h he=>h (by rw [he])) this
 have hN:((f.pr v).map fun e=>if e.1<e.2 then e else (e.2,e.1)).Nodup:=by
  refine nodup_mp _ _ hprn ?_
  rintro ⟨a,b⟩ hx ⟨c,d⟩ hy h
  have r1:=pr_rk ht.nd hx
  have r2:=pr_rk ht.nd hy
  simp only at h
  split at h<;>split at h
  ·exact h
  ·cases h;omega
  ·simp only [Prod.mk.injEq] at h
   obtain ⟨rfl,rfl⟩:=h
   omega
  ·simp only [Prod.mk.injEq] at h
   rw [h.1,h.2]
 have l1:=nodup_sub E ((f.pr v).map fun e=>if e.1<e.2 then e else (e.2,e.1)) hE.nd (by
  rintro ⟨a,b⟩ he
  have h:=(hE.mem a b).1 he
  rw [List.mem_map]
  rcases h.2 with h2|h2
  ·exact ⟨(a,b),h2,by simp [h.1]⟩
  ·exact ⟨(b,a),h2,by simp only;rw [if_neg (by omega)]⟩)
 have l2:=nodup_sub _ E hN (by
  rintro ⟨a,b⟩ he
  rw [List.mem_map] at he
  obtain ⟨⟨c,d⟩,h1,h2⟩:=he
  have r1:=pr_rk ht.nd h1
  have hcd:c≠d:=by rintro rfl;omega
  simp only at h2
  split at h2
  ·rename_i hlt
   cases h2
   exact (hE.mem _ _).2 ⟨hlt,.inl h1⟩
  ·cases h2
   exact (hE.mem _ _).2 ⟨by omega,.inr h1⟩)
 rw [List.length_map] at l1 l2
 omega
theorem TrE.con:∀x,x∈v::f.vs->Con E v x:=by
 intro x hx
 rw [List.mem_cons] at hx
 rcases hx with rfl|hx
 ·exact .refl _
 ·refine pr_reach f v (Con E v) (.refl _) (fun a b hab ha => ?_) x hx
  have hne:a≠b:=by
   rintro rfl
   have:=pr_rk ht.nd hab
   omega
  by_cases hlt:a<b
  ·exact .fwd ha ((hE.mem a b).2 ⟨hlt,.inl hab⟩)
  ·exact .bwd ha ((hE.mem b a).2 ⟨by omega,.inr hab⟩)
end
theorem TrE.of {v:Int} {f:FT} {E:List Ed} (hnd:E.Nodup)
  (hm:∀a b:Int,(a,b)∈E↔∃k:Nat,k+1<(tr v f).length/\(tr v f)[k]?=some a/\(tr v f)[k+1]?=some b/\a<b):TrE v f E where
 nd:=hnd
 mem:=fun a b=>by
  rw [hm]
  constructor
  ·rintro ⟨k,h1,h2,h3,h4⟩
   refine ⟨h4,?_⟩
   obtain ⟨p,w,g1,g2⟩:=split_pr f v k h1
   rcases g2 with ⟨g2,g3⟩|⟨g2,g3⟩
   ·rw [h2] at g2
    rw [h3] at g3
    cases g2;cases g3
    exact .inl g1
   ·rw [h2] at g2
    rw [h3] at g3
    cases g2;cases g3
    exact .inr g1
  ·rintro ⟨h1,h2⟩
   have:∃k,(tr v f)[k]?=some a/\(tr v f)[k+1]?=some b:=by
    rcases h2 with h2|h2
    ·exact (pr_at f v a b h2).1
    ·exact (pr_at f v b a h2).2
   obtain ⟨k,k1,k2⟩:=this
   exact ⟨k,(List.getElem?_eq_some_iff.1 k2).1,k1,k2,h1⟩
def mE (E:List Ed) (e:Ed):List Ed:=E.filter fun x=>decide (x≠e)
theorem mem_mE {E:List Ed} {e x:Ed}:x∈mE E e↔x∈E/\x≠e:=by simp [mE]
def NoCyc (E:List Ed):Prop:=∀e,e∈E->¬Con (mE E e) e.1 e.2
theorem NoCyc.sub {E E':List Ed} (h:NoCyc E) (hs:∀e,e∈E'->e∈E):NoCyc E':=fun e he hc=>
 h e (hs e he) (hc.mono fun x hx=>mem_mE.2 ⟨hs x (mem_mE.1 hx).1,(mem_mE.1 hx).2⟩)
theorem nocyc_snoc {l:List Ed} {a b:Int} (h:NoCyc l) (hx:¬Con l a b):NoCyc (l++[(a,b)]):=by
 intro e he hc
 by_cases hea:e=(a,b)
 ·subst hea
  refine hx (hc.mono fun x hx' => ?_)
  obtain ⟨h1,h2⟩:=mem_mE.1 hx'
  rw [List.mem_append,List.mem_singleton] at h1
  rcases h1 with h1|h1
  ·exact h1
  ·exact absurd h1 h2
 ·have hel:e∈l:=by
   rw [List.mem_append,List.mem_singleton] at he
   rcases he with he|he
   ·exact he
   ·exact absurd he hea
  have hm:mE (l++[(a,b)]) e=mE l e++[(a,b)]:=by
   unfold mE
   rw [List.filter_append]
   simp [Ne.symm hea]
  have hsub:∀{x y:Int},Con (mE l e) x y->Con l x y:=fun hc=>hc.mono fun x hx=>(mem_mE.1 hx).1
  have hee:Con l e.1 e.2:=.of hel
  rw [hm] at hc
  rcases Con.snoc.1 hc with h1|⟨h1,h2⟩|⟨h1,h2⟩
  ·exact h e hel h1
  ·exact hx (((hsub h1).symm.trans hee).trans (hsub h2).symm)
  ·exact hx (((hsub h2).trans hee.symm).trans (hsub h1))
theorem nocyc_of {E:List Ed} (h:∀i,∀hi:i<E.length,¬Con (E.take i) E[i].1 E[i].2):∀i,i<=E.length->NoCyc (E.take i)
 | 0,_=>by intro e he;simp at he
 | i+1,hi=>by
  rw [List.take_succ_eq_append_getElem (by omega)]
  exact nocyc_snoc (nocyc_of h i (by omega)) (h i (by omega))
theorem ring_iff {E:List Ed} (hn:E.Nodup):(∃i,∃hi:i<E.length,Con (E.take i) E[i].1 E[i].2)↔¬NoCyc E:=by
 constructor
 ·rintro ⟨i,hi,hc⟩ h
  refine h _ (List.getElem_mem hi) (hc.mono fun x hx=>mem_mE.2 ⟨List.mem_of_mem_take hx,?_⟩)
  rintro rfl
  rw [<-List.take_append_drop i E,List.nodup_append] at hn
  exact hn.2.2 _ hx _ (by rw [List.drop_eq_getElem_cons hi];exact List.mem_cons_self ..) rfl
 ·intro h
  apply Classical.byContradiction
  intro hno
  refine h ?_
  have:=nocyc_of (E:=E) (fun i hi hc=>hno ⟨i,hi,hc⟩) E.length (Nat.le_refl _)
  rwa [List.take_length] at this
def ed (a b:Int):Ed:=if a<b then (a,b) else (b,a)
theorem ed_comm (a b:Int):ed a b=ed b a:=by
 unfold ed
 by_cases h:a<b
 ·rw [if_pos h,if_neg (by omega)]
 ·by_cases h':b<a
  ·rw [if_neg h,if_pos h']
  ·have:a=b:=by omega
   rw [this]
theorem ed_inj {v u w:Int} (h:ed v u=ed v w):u=w:=by
 unfold ed at h
 split at h<;>split at h<;>simp only [Prod.mk.injEq] at h<;>omega
theorem ed_has (v u:Int):(ed v u).1=v\/(ed v u).2=v:=by
 unfold ed
 split
 ·exact .inl rfl
 ·exact .inr rfl
def ad (E:List Ed) (u v:Int):Prop:=(u,v)∈E\/(v,u)∈E
theorem ad_symm {E:List Ed} {u v:Int} (h:ad E u v):ad E v u:=h.symm
theorem con_ed {E:List Ed} {a b:Int} (h:ed a b∈E):Con E a b:=by
 unfold ed at h
 split at h
 ·exact .of h
 ·exact (Con.of h).symm
section
variable {n:Nat} {E:List Ed} (hE:∀e,e∈E->edB n e=true)
include hE
theorem ed_ad {a b:Int}:ed a b∈E↔ad E a b:=by
 unfold ed ad
 constructor
 ·intro h
  split at h
  ·exact .inl h
  ·exact .inr h
 ·rintro (h|h)
  ·have:=edB_f (hE _ h)
   rw [if_pos this.2.1];exact h
  ·have:=edB_f (hE _ h)
   simp only at this
   rw [if_neg (by omega)];exact h
theorem ad_rg {a b:Int} (h:ad E a b):(0<=a/\a<n)/\(0<=b/\b<n)/\a≠b:=by
 rcases h with h|h
 ·have:=edB_f (hE _ h)
  simp only at this
  omega
 ·have:=edB_f (hE _ h)
  simp only at this
  omega
end
def BrC (E:List Ed) (v fr x:Int):Prop:=fr = -1\/Con (mE E (ed v fr)) v x
theorem brC_self (E:List Ed) (v fr:Int):BrC E v fr v:=.inr (.refl _)
section
variable {E:List Ed} (hN:NoCyc E)
include hN
theorem nc_uv {u v:Int} (he:ed u v∈E):¬Con (mE E (ed u v)) u v:=by
 intro hc
 refine hN _ he ?_
 unfold ed at hc ⊢
 split
 ·rename_i h
  rw [if_pos h] at hc
  exact hc
 ·rename_i h
  rw [if_neg h] at hc
  exact hc.symm
theorem con_av {u v x:Int} (he:ed u v∈E) {e1:Ed} (h1:e1.1=v\/e1.2=v) (h:Con (mE E (ed u v)) u x):Con (mE E e1) u x:=by
 induction h with
 | refl=>exact .refl _
 | fwd hc hm ih=>
  refine .fwd ih (mem_mE.2 ⟨(mem_mE.1 hm).1,?_⟩)
  rintro rfl
  rcases h1 with h1|h1
  ·simp only at h1
   subst h1
   exact nc_uv hN he hc
  ·simp only at h1
   subst h1
   exact nc_uv hN he (.fwd hc hm)
 | bwd hc hm ih=>
  refine .bwd ih (mem_mE.2 ⟨(mem_mE.1 hm).1,?_⟩)
  rintro rfl
  rcases h1 with h1|h1
  ·simp only at h1
   subst h1
   exact nc_uv hN he (.bwd hc hm)
  ·simp only at h1
   subst h1
   exact nc_uv hN he hc
theorem brC_sub {n:Nat} (hE:∀e,e∈E->edB n e=true) {v fr u x:Int} (hu:Nb (ad E) v fr u) (h:BrC E u v x):BrC E v fr x/\x≠v:=by
 have had:ad E u v:=by
  rcases hu.2 with h|h
  ·exact h
  ·exact ad_symm h
 have hrg:=ad_rg hE had
 have he:ed u v∈E:=(ed_ad hE).2 had
 have hc:Con (mE E (ed u v)) u x:=by
  rcases h with h|h
  ·omega
  ·exact h
 refine ⟨.inr ?_,?_⟩
 ·refine Con.trans ?_ (con_av hN he (e1:=ed v fr) (ed_has v fr) hc)
  refine con_ed (mem_mE.2 ⟨by rw [ed_comm];exact he,fun h=>hu.1 (ed_inj h)⟩)
 ·rintro rfl
  exact nc_uv hN he hc
theorem brC_dis {n:Nat} (hE:∀e,e∈E->edB n e=true) {v fr u u' x:Int} (hu:Nb (ad E) v fr u) (hu':Nb (ad E) v fr u') (h:BrC E u v x) (h':BrC E u' v x):u=u':=by
 have conv:∀{w:Int},Nb (ad E) v fr w->ad E w v:=fun hw=>by
  rcases hw.2 with h|h
  ·exact h
  ·exact ad_symm h
 have hrg:=ad_rg hE (conv hu)
 have he:=(ed_ad hE).2 (conv hu)
 have he':=(ed_ad hE).2 (conv hu')
 have hc:Con (mE E (ed u v)) u x:=by
  rcases h with h|h
  ·omega
  ·exact h
 have hc':Con (mE E (ed u' v)) u' x:=by
  rcases h' with h|h
  ·omega
  ·exact h
 apply Classical.byContradiction
 intro hne
 refine nc_uv hN he' ?_
 have h1:Con (mE E (ed u' v)) u x:=con_av hN he (e1:=ed u' v) (by rw [ed_comm];exact ed_has v u') hc
 have h2:Con (mE E (ed u' v)) u v:=con_ed (mem_mE.2 ⟨he,fun h=>hne (ed_inj (v:=v) (by rw [ed_comm v u,ed_comm v u'];exact h))⟩)
 exact (hc'.trans h1.symm).trans h2
end
def WG (n:Nat) (pa:Int->Int->Prop) (v fr:Int) (seen:List Bool) (f:FT) (seen':List Bool):Prop:=
 (v::f.vs).Nodup/\(∀x,x∈v::f.vs->(0<=x/\x<n)/\seen.getD x.toNat false=false)/\(∀x:Nat,x<n->(seen'.getD x false=true↔seen.getD x false=true\/(x:Int)∈v::f.vs))/\RtO pa v fr f/\GF pa f v
def WNC (n:Nat) (E:List Ed) (v fr:Int) (seen:List Bool):Prop:=NoCyc E/\∀x:Nat,x<n->BrC E v fr x->seen.getD x false=false
section
variable {n:Nat} {E:List Ed} (hE:∀e,e∈E->edB n e=true)
include hE
theorem nbA_rg {v fr u:Int} (h:Nb (ad E) v fr u):(0<=u/\u<n):=by
 rcases h.2 with h|h
 ·exact (ad_rg hE h).1
 ·exact (ad_rg hE h).2.1
theorem walkG (hn:n<=12) (hes:E.length<=1048576):∀(d:Nat) (v fr:Int) (seen:List Bool) (W:List Int),seen.length=n->(0<=v/\v<n)->seen.getD v.toNat false=false->W.Nodup->(∀x,x∈W->(0<=x/\x<n)/\seen.getD x.toNat false=true)->n<W.length+d ->
  ∃t ring seen',g_sl06Walk d ((n:Int),E,v,fr,seen)=some ((t,ring),seen')/\seen'.length=n/\(ring=false->∃f,t=tr v f/\WG n (ad E) v fr seen f seen')/\(WNC n E v fr seen->ring=false/\∀x,x∈t->BrC E v fr x)
 | 0,v,fr,seen,W,_,_,_,hWn,hW,hd=>by
  have:=nodup_le n W hWn (fun x hx=>(hW x hx).1)
  omega
 | d+1,v,fr,seen,W,hs,hv,hvf,hWn,hW,hd=>by
  have hm:maxLen=9223372036854775807:=by decide
  have hvn:v.toNat<seen.length:=by omega
  have hvW:v∉W:=fun h=>by
   have:=(hW v h).2
   rw [hvf] at this;cases this
  have hW'n:(v::W).Nodup:=List.nodup_cons.2 ⟨hvW,hWn⟩
  show ∃t ring seen',f_sl06Walk (g_sl06Walk d) BIG _=_/\_
  rw [e_sl06Walk]
  rw [bnd_ok hv.1 (by omega),List.getElem?_eq_getElem hvn,Option.bind_some]
  refine loop_bind (x:=([v],seen.set v.toNat true,(0:Int))) (P:=fun o=>∃t ring seen',o=some ((t,ring),seen')/\seen'.length=n/\(ring=false->∃f,t=tr v f/\WG n (ad E) v fr seen f seen')/\(WNC n E v fr seen->ring=false/\∀x,x∈t->BrC E v fr x))
   (fun (x:List Int × List Bool × Int)=>∃(i:Nat) (f:FT),x.2.2=(i:Int)/\i<=n/\x.1=tr v f/\x.2.1.length=n/\(v::f.vs).Nodup/\(∀y,y∈v::f.vs->(0<=y/\y<n)/\seen.getD y.toNat false=false)/\(∀y:Nat,y<n->(x.2.1.getD y false=true↔seen.getD y false=true\/(y:Int)∈v::f.vs))/\QF (ad E) v fr i f/\(WNC n E v fr seen->∀y,y∈f.vs->∃u:Nat,u<i/\Nb (ad E) v fr u/\BrC E u v y))
   (fun x=>n-x.2.2.toNat) (fun _ (b:(List Int × List Bool) ⊕ (List Int × Bool × List Bool))=>(∃f seen',b = .inl (tr v f,seen')/\seen'.length=n/\WG n (ad E) v fr seen f seen'/\(WNC n E v fr seen->∀x,x∈tr v f->BrC E v fr x))\/(∃t seen',b = .inr (t,true,seen')/\seen'.length=n/\¬WNC n E v fr seen)) (by simp [BIG];omega)
   ⟨0,.nil,rfl,by omega,rfl,by rw [List.length_set];exact hs,by simp [FT.vs],fun y hy => ?_,fun y hy => ?_,⟨List.Pairwise.nil,fun u => ?_,trivial⟩,fun _ y hy=>by simp [FT.vs] at hy⟩ (fun self x hx hself => ?_) (fun b hb => ?_)
  ·simp only [FT.vs,List.mem_cons,List.not_mem_nil,or_false] at hy
   subst hy
   exact ⟨hv,hvf⟩
  ·rw [getD_set_b hvn]
   simp only [FT.vs,List.mem_cons,List.not_mem_nil,or_false]
   constructor
   ·rintro (h|h)
    ·exact .inl h
    ·exact .inr (by omega)
   ·rintro (h|h)
    ·exact .inl h
    ·exact .inr (by omega)
  ·simp only [FT.rts,List.not_mem_nil,false_iff,not_and]
   intro h
   have:=nbA_rg hE h
   omega
  ·obtain ⟨out,sn,u⟩:=x
   obtain ⟨i,f,h1,h2,h3,h4,h5,h6,h7,h8,h9⟩:=hx
   simp only at h1 h2 h3 h4 h5 h6 h7 h8 h9 hself ⊢
   subst h1 h3
   by_cases hi:i<n
   ·have hed:(bif decide (v<(i:Int)) then some (v,(i:Int)) else some ((i:Int),v))=some (ed v i):=by
     unfold ed
     by_cases h:v<(i:Int)
     ·rw [decide_eq_true h,if_pos h];rfl
     ·rw [decide_eq_false h,if_neg h];rfl
    simp only [show ((i:Int)<(n:Int)) from by omega,decide_true,cond_true,hed,Option.bind_some]
    have hskip:¬Nb (ad E) v fr i->∃b,self (tr v f,sn,IntKind.wrap .i64 ((i:Int)+1))=some b/\((∃f seen',b = .inl (tr v f,seen')/\seen'.length=n/\WG n (ad E) v fr seen f seen'/\(WNC n E v fr seen->∀x,x∈tr v f->BrC E v fr x))\/(∃t seen',b = .inr (t,true,seen')/\seen'.length=n/\¬WNC n E v fr seen)):=by
     intro hno
     rw [wr1 (by omega)]
     exact hself _ ⟨i+1,f,rfl,by omega,rfl,h4,h5,h6,h7,qf_skip h8 hno,fun hw y hy=>by
      obtain ⟨u,g2,g3⟩:=h9 hw y hy
      exact ⟨u,by omega,g3⟩⟩ (by simp;omega)
    by_cases hif:(i:Int)=fr
    ·rw [decide_eq_true hif]
     simp only [cond_true,Option.bind_some]
     exact hskip (fun h=>h.1 hif)
    ·rw [decide_eq_false hif]
     rw [cond_false,h_sl05Has _ _ (by omega),Option.bind_some]
     by_cases hin:ed v i∈E
     ·have had:ad E v i:=(ed_ad hE).1 hin
      have hnb:Nb (ad E) v fr i:=⟨hif,.inr had⟩
      have hil:i<sn.length:=by omega
      rw [decide_eq_true hin]
      simp only [Bool.not_true,Option.bind_some,cond_false]
      rw [bnd_nat hil,List.getElem?_eq_getElem hil,Option.bind_some]
      have hgi:sn.getD i false=sn[i]:=gD (List.getElem?_eq_getElem hil)
      -- nothing of i's side was met before
      have hfree:WNC n E v fr seen->∀x:Nat,x<n->BrC E i v x->sn.getD x false=false:=by
       intro hw x hx hb
       obtain ⟨b1,b2⟩:=brC_sub hw.1 hE hnb hb
       cases hg:sn.getD x false with
       | false=>rfl
       | true=>
        exfalso
        rcases (h7 x hx).1 hg with h|h
        ·rw [hw.2 x hx b1] at h;cases h
        ·rw [List.mem_cons] at h
         rcases h with h|h
         ·exact b2 h
         ·obtain ⟨u,u1,u2,u3⟩:=h9 hw _ h
          have:=brC_dis hw.1 hE u2 hnb u3 hb
          omega
      by_cases hsi:sn[i]=true
      ·rw [hsi,cond_true,Option.bind_some]
       refine ⟨_,rfl,.inr ⟨_,_,rfl,h4,fun hw => ?_⟩⟩
       have:=hfree hw i hi (brC_self E i v)
       rw [hgi,hsi] at this
       cases this
      ·have hsf:sn[i]=false:=by simpa using hsi
       rw [hsf,cond_false]
       obtain ⟨t,ring,sn',e1,w1,w2,w3⟩:=walkG hn hes d i v sn (v::W) h4 (by omega) (by rw [Int.toNat_natCast,hgi,hsf]) hW'n (fun x hx=>by
        rw [List.mem_cons] at hx
        rcases hx with rfl|hx
        ·exact ⟨hv,by rw [h7 x.toNat (by omega),Int.toNat_of_nonneg hv.1];exact .inr (List.mem_cons_self ..)⟩
        ·obtain ⟨x1,x2⟩:=hW x hx
         exact ⟨x1,by rw [h7 x.toNat (by omega)];exact .inl x2⟩) (by simp only [List.length_cons];omega)
       rw [e1,Option.bind_some]
       cases ring with
       | true=>
        rw [cond_true,Option.bind_some]
        refine ⟨_,rfl,.inr ⟨_,_,rfl,w1,fun hw => ?_⟩⟩
        have:=(w3 ⟨hw.1,hfree hw⟩).1
        cases this
       | false=>
        obtain ⟨g,rfl,k1,k2,k3,k4,k5⟩:=w2 rfl
        have hvl:f.vs.length<=12:=by
         have:=nodup_le n (v::f.vs) h5 (fun x hx=>(h6 x hx).1)
         simp only [List.length_cons] at this;omega
        have hgl:g.vs.length<=12:=by
         have:=nodup_le n (_::g.vs) k1 (fun x hx=>(k2 x hx).1)
         simp only [List.length_cons] at this;omega
        simp only [cond_false]
        rw [decide_eq_true (by simp only [tr_len];omega),cond_true,decide_eq_true (by simp only [List.length_append,tr_len,List.length_cons,List.length_nil];omega),cond_true,Option.bind_some]
        have eo:(tr v f++tr i g)++[v]=tr v (f.app (.nd i g .nil)):=by simp [tr,sg_app,FT.sg]
        simp only [eo]
        have evs:(f.app (.nd i g .nil)).vs=f.vs++((i:Int)::g.vs):=by rw [vs_app];simp [FT.vs]
        rw [wr1 (by omega)]
        refine hself _ ⟨i+1,_,rfl,by omega,rfl,w1,?_,fun y hy => ?_,fun y hy => ?_,qf_put h8 hnb k4 k5,fun hw y hy => ?_⟩ (by simp;omega)
        ·rw [evs]
         have:(v::(f.vs++(i:Int)::g.vs))=(v::f.vs)++(i:Int)::g.vs:=rfl
         rw [this,List.nodup_append]
         refine ⟨h5,k1,fun a ha b hb hab => ?_⟩
         subst hab
         have h6':=h6 a ha
         have h7':=(h7 a.toNat (by omega)).2 (.inr (by rw [Int.toNat_of_nonneg h6'.1.1];exact ha))
         rw [(k2 a hb).2] at h7'
         cases h7'
        ·rw [evs] at hy
         have:y∈(v::f.vs)\/y∈(i:Int)::g.vs:=by
          rw [List.mem_cons,List.mem_append] at hy
          rcases hy with hy|hy|hy
          ·exact .inl (hy▸List.mem_cons_self ..)
          ·exact .inl (List.mem_cons_of_mem _ hy)
          ·exact .inr hy
         rcases this with hy|hy
         ·exact h6 y hy
         ·refine ⟨(k2 y hy).1,?_⟩
          have h0:=(k2 y hy).1
          cases hg:seen.getD y.toNat false with
          | false=>rfl
          | true=>
           have:=(h7 y.toNat (by omega)).2 (.inl hg)
           rw [(k2 y hy).2] at this
           cases this
        ·rw [k3 y hy,h7 y hy,evs]
         simp only [List.mem_cons,List.mem_append]
         constructor
         ·rintro ((h|h|h)|h|h)
          ·exact .inl h
          ·exact .inr (.inl h)
          ·exact .inr (.inr (.inl h))
          ·exact .inr (.inr (.inr (.inl h)))
          ·exact .inr (.inr (.inr (.inr h)))
         ·rintro (h|h|h|h|h)
          ·exact .inl (.inl h)
          ·exact .inl (.inr (.inl h))
          ·exact .inl (.inr (.inr h))
          ·exact .inr (.inl h)
          ·exact .inr (.inr h)
        ·rw [evs,List.mem_append] at hy
         rcases hy with hy|hy
         ·obtain ⟨u,g2,g3⟩:=h9 hw y hy
          exact ⟨u,by omega,g3⟩
         ·exact ⟨i,by omega,hnb,(w3 ⟨hw.1,hfree hw⟩).2 y ((tr_mem _ _ _).2 hy)⟩
     ·rw [decide_eq_false hin]
      simp only [Bool.not_false,Option.bind_some,cond_true]
      refine hskip (fun h=>hin ((ed_ad hE).2 ?_))
      rcases h.2 with h|h
      ·exact ad_symm h
      ·exact h
   ·simp only [show ¬((i:Int)<(n:Int)) from by omega,decide_false,cond_false]
    have hin:i=n:=by omega
    subst hin
    refine ⟨_,rfl,.inl ⟨f,sn,rfl,h4,⟨h5,h6,h7,⟨h8.1,fun u => ?_⟩,h8.2.2⟩,fun hw x hx => ?_⟩⟩
    ·rw [h8.2.1]
     exact ⟨fun h=>h.1,fun h=>⟨h,(nbA_rg hE h).2⟩⟩
    ·rw [tr_mem,List.mem_cons] at hx
     rcases hx with rfl|hx
     ·exact brC_self ..
     ·obtain ⟨u,u1,u2,u3⟩:=h9 hw x hx
      exact (brC_sub hw.1 hE u2 u3).1
  ·rcases hb with ⟨f,seen',rfl,h1,h2,h3⟩|⟨t,seen',rfl,h1,h2⟩
   ·exact ⟨_,_,_,rfl,h1,fun _=>⟨f,rfl,h2⟩,fun hw=>⟨rfl,h3 hw⟩⟩
   ·exact ⟨_,_,_,rfl,h1,fun h=>(by cases h),fun hw=>absurd hw h2⟩
end
theorem h_sl05In (l:List Int) (x:Int) (hl:l.length<=1048576):g_sl05In (l,x)=some (decide (x∈l),()):=by
 have hm:maxLen=9223372036854775807:=by decide
 show f_sl05In BIG _=_
 rw [e_sl05In,hiLoop l (by omega) (fun y=>decide (y=x)) true (fun self i y hy => ?_) (fun self=>by simp)]
 ·rw [Option.bind_some]
  have:l.any (fun y=>decide (y=x))=true↔x∈l:=by
   rw [List.any_eq_true]
   constructor
   ·rintro ⟨y,hy,h⟩
    rw [decide_eq_true_eq] at h;rw [<-h];exact hy
   ·exact fun h=>⟨x,h,by simp⟩
  by_cases h:x∈l
  ·rw [if_pos (this.2 h),decide_eq_true h]
  ·rw [if_neg (fun h'=>h (this.1 h')),decide_eq_false h]
 ·have hi:=(List.getElem?_eq_some_iff.1 hy).1
  simp only [show ((i:Int)<(l.length:Int)) from by omega,decide_true,cond_true]
  rw [bnd_nat hi,hy,Option.bind_some,wr1 (by omega)]
  by_cases h:y=x<;>simp [h]
theorem w_sl06Open {v:Int} {c:FT} (h:TrOk v c):g_sl06Open (tr v c)=some (true,()):=by
 have hm:maxLen=9223372036854775807:=by decide
 have hl:=h.len
 have hlen:=tr_len v c
 have hsl:=sg_len c v
 have e0:(tr v c)[Int.toNat 0]?=some v:=rfl
 have b0:∀{B:Type} {k:Nat->Option B},bnd (tr v c).length 0 k=k (Int.toNat 0):=fun {B k}=>bnd_ok (by omega) (by omega)
 show f_sl06Open BIG _=_
 rw [e_sl06Open]
 simp only [b0,e0,Option.bind_some]
 refine loop_bind (P:=fun o=>o=some (true,())) (fun (x:List Int × List Int × Int)=>∃j:Nat,x.2.2=((j+1:Nat):Int)/\j<=(c.sg v).length/\fM tStep ([v],[v]) ((c.sg v).take j)=some (x.1,x.2.1)/\1<=x.1.length/\x.1.length<=j+1/\x.2.1.length<=j+1) (fun x=>(tr v c).length-x.2.2.toNat)
  (fun _ (b:List Int ⊕ Bool)=>b = .inl [v]) (by simp [BIG];omega) ⟨0,rfl,by omega,rfl,by simp,by simp,by simp⟩ (fun self x hx hs => ?_) (fun b hb=>by subst hb;rfl)
 obtain ⟨p,q,jj⟩:=x
 obtain ⟨j,h1,h2,h3,k1,k2,k3⟩:=hx
 simp only at h1 h2 h3 k1 k2 k3 hs ⊢
 subst h1
 by_cases hj:j<(c.sg v).length
 ·have hj1:j+1<(tr v c).length:=by omega
  have hy:(tr v c)[j+1]?=some (c.sg v)[j]:=by
   show (c.sg v)[j]?=_
   exact List.getElem?_eq_getElem hj
  have bj:∀{B:Type} {k:Nat->Option B},bnd (tr v c).length ((j+1:Nat):Int) k=k (j+1):=fun {B k}=>bnd_nat hj1
  generalize hye:(c.sg v)[j]=y at hy
  -- the step is one of the run's
  have hst:∃s',tStep (p,q) y=some s':=by
   have hr:=h.run
   rw [<-List.take_append_drop j (c.sg v),fM_app,h3,Option.bind_some,List.drop_eq_getElem_cons hj,fM,hye] at hr
   cases hs':tStep (p,q) y with
   | none=>rw [hs'] at hr;cases hr
   | some s'=>exact ⟨s',rfl⟩
  have htk:∀{s'},tStep (p,q) y=some s'->fM tStep ([v],[v]) ((c.sg v).take (j+1))=some s':=by
   intro s' hs'
   rw [List.take_succ_eq_append_getElem hj,fM_app,h3,Option.bind_some,fM,hye,hs']
   rfl
  obtain ⟨s',hst⟩:=hst
  have ht:=htk hst
  simp only [show (((j+1:Nat):Int)<((tr v c).length:Int)) from by omega,decide_true,cond_true,bj,hy,Option.bind_some]
  have hw1:IntKind.wrap .i64 ((p.length:Int)-1)=((p.length-1:Nat):Int):=by rw [wr (by omega) (by omega)];omega
  have hpop:(bif decide ((1:Int)<(p.length:Int)) then
     bnd p.length (IntKind.wrap .i64 ((p.length:Int)-(2:Int))) fun n8=>
     Option.bind p[n8]? fun y9=>
     some (decide (y=y9))
     else some false)=some (decide (1<p.length/\p.getD (p.length-2) 0=y)):=by
   by_cases h1:1<p.length
   ·have hw2:IntKind.wrap .i64 ((p.length:Int)-2)=((p.length-2:Nat):Int):=by rw [wr (by omega) (by omega)];omega
    rw [decide_eq_true (by omega),cond_true,hw2,bnd_nat (by omega),getD_at (by omega),Option.bind_some]
    by_cases hq:p.getD (p.length-2) 0=y
    ·rw [decide_eq_true hq.symm,decide_eq_true ⟨h1,hq⟩]
    ·rw [decide_eq_false (fun h=>hq h.symm),decide_eq_false (fun h=>hq h.2)]
   ·rw [decide_eq_false (by omega),cond_false,decide_eq_false (fun h=>h1 h.1)]
  rw [hpop,Option.bind_some]
  unfold tStep at hst
  by_cases hc:1<p.length/\p.getD (p.length-2) 0=y
  ·rw [if_pos hc] at hst
   cases hst
   simp only [decide_eq_true hc,cond_true,hw1]
   rw [decide_eq_true (by omega),cond_true,Int.toNat_natCast,decide_eq_true (by omega),cond_true,Option.bind_some,Nat.sub_zero,List.drop_zero]
   simp only
   rw [wr1 (by omega)]
   refine hs _ ⟨j+1,rfl,hj,ht,?_,?_,by simp only;omega⟩ (by simp;omega)
   ·simp only [List.length_take];omega
   ·simp only [List.length_take];omega
  ·rw [if_neg hc] at hst
   split at hst
   case isFalse=>cases hst
   case isTrue hq=>
   cases hst
   simp only [decide_eq_false hc,cond_false]
   rw [h_sl05In q y (by omega),Option.bind_some]
   simp only [decide_eq_false hq.2,cond_false]
   rw [decide_eq_true (by simp only [List.length_cons,List.length_nil];omega),cond_true,decide_eq_true (by simp only [List.length_cons,List.length_nil];omega),cond_true,Option.bind_some]
   simp only
   rw [wr1 (by omega)]
   refine hs _ ⟨j+1,rfl,hj,ht,?_,?_,?_⟩ (by simp;omega)
   ·simp only [List.length_append,List.length_cons,List.length_nil];omega
   ·simp only [List.length_append,List.length_cons,List.length_nil];omega
   ·simp only [List.length_append,List.length_cons,List.length_nil];omega
 ·have:j=(c.sg v).length:=by omega
  subst this
  rw [List.take_length,h.run] at h3
  cases h3
  simp only [show ¬((((c.sg v).length+1:Nat):Int)<((tr v c).length:Int)) from by omega,decide_false,cond_false]
  exact ⟨_,rfl,rfl⟩
theorem w_sTourOk {v:Int} {c:FT} (h:TrOk v c):g_sTourOk (tr v c)=some (true,()):=by
 have hm:maxLen=9223372036854775807:=by decide
 have hl:=h.len
 have hlen:=tr_len v c
 show f_sTourOk BIG _=_
 rw [e_sTourOk,h_sl01In',show inB ((tr v c).length:Int) 1 23=true from inB_t.2 (by omega),Option.bind_some]
 simp only [Bool.not_true,cond_false]
 rw [hiLoop (tr v c) (by omega) (fun y=>!inB y 0 11) false (fun self i y hy => ?_) (fun self=>by simp)]
 ·have:(tr v c).any (fun y=>!inB y 0 11)=false:=by
   rw [List.any_eq_false]
   intro y hy
   rw [show inB y 0 11=true from inB_t.2 (h.rg y ((tr_mem _ _ _).1 hy))]
   simp
  rw [this]
  simp only [Bool.false_eq_true,if_false,Option.bind_some]
  rw [w_sl06Open h]
  rfl
 ·have hi:=(List.getElem?_eq_some_iff.1 hy).1
  simp only [show ((i:Int)<((tr v c).length:Int)) from by omega,decide_true,cond_true]
  rw [bnd_nat hi,hy,Option.bind_some,h_sl01In',Option.bind_some,wr1 (by omega)]
  cases inB y 0 11<;>rfl
theorem w_sVertsOf (t:List Int) (ht:∀x,x∈t->0<=x/\x<=11) (hl:t.length<=1048576):∃V,g_sVertsOf t=some (V,())/\V.Pairwise (· < ·)/\(∀x,x∈V↔x∈t)/\V.length<=12:=by
 have hm:maxLen=9223372036854775807:=by decide
 show ∃V,f_sVertsOf BIG _=_/\_
 rw [e_sVertsOf]
 refine loop_bind (P:=fun o=>∃V:List Int,o=some (V,())/\V.Pairwise (· < ·)/\(∀x,x∈V↔x∈t)/\V.length<=12) (fun (s:List Int × Int)=>∃i:Nat,s.2=i/\i<=12/\s.1.Pairwise (· < ·)/\(∀x,x∈s.1↔x∈t/\x<i)/\s.1.length<=i) (fun s=>12-s.2.toNat)
  (fun _ (V:List Int)=>V.Pairwise (· < ·)/\(∀x,x∈V↔x∈t)/\V.length<=12) (by simp [BIG]) ⟨0,rfl,by omega,by simp,fun x => ?_,by simp⟩ (fun self s hx hs => ?_) (fun V hV=>⟨V,rfl,hV⟩)
 ·simp only [List.not_mem_nil,false_iff,not_and]
  intro hx
  have:=ht x hx
  omega
 obtain ⟨s,j⟩:=s
 obtain ⟨i,h1,h2,h3,h4,h5⟩:=hx
 simp only at h1 h2 h3 h4 h5 hs ⊢
 subst h1
 by_cases hi:i<12
 ·simp only [show ((i:Int)<12) from by omega,decide_true,cond_true]
  rw [h_sl05In t i hl,Option.bind_some,wr1 (by omega)]
  by_cases hin:(i:Int)∈t
  ·rw [decide_eq_true hin,cond_true,decide_eq_true (by simp only [List.length_cons,List.length_nil];omega),cond_true,Option.bind_some]
   refine hs _ ⟨i+1,rfl,by omega,?_,fun x => ?_,by simp only [List.length_append,List.length_cons,List.length_nil];omega⟩ (by simp;omega)
   ·rw [List.pairwise_append]
    refine ⟨h3,by simp,fun a ha b hb => ?_⟩
    rw [List.mem_singleton] at hb
    subst hb
    exact ((h4 a).1 ha).2
   ·simp only [List.mem_append,List.mem_singleton]
    rw [h4]
    constructor
    ·rintro (⟨g1,g2⟩|rfl)
     ·exact ⟨g1,by omega⟩
     ·exact ⟨hin,by omega⟩
    ·rintro ⟨g1,g2⟩
     by_cases hx:x=(i:Int)
     ·exact .inr hx
     ·exact .inl ⟨g1,by omega⟩
  ·rw [decide_eq_false hin,cond_false,Option.bind_some]
   refine hs _ ⟨i+1,rfl,by omega,h3,fun x => ?_,by simp only;omega⟩ (by simp;omega)
   simp only
   rw [h4]
   constructor
   ·rintro ⟨g1,g2⟩
    exact ⟨g1,by omega⟩
   ·rintro ⟨g1,g2⟩
    refine ⟨g1,?_⟩
    by_cases hx:x=(i:Int)
    ·subst hx;exact absurd g1 hin
    ·omega
 ·simp only [show ¬((i:Int)<12) from by omega,decide_false,cond_false]
  have:i=12:=by omega
  subst this
  refine ⟨_,rfl,h3,fun x => ?_,h5⟩
  rw [h4]
  exact ⟨fun h=>h.1,fun h=>⟨h,by have:=ht x h;omega⟩⟩
def atE (L:List Led) (k:Int):List Ed:=(L.filter fun x=>x.2.2.2&&decide (k<=x.2.2.1)).map fun x=>(x.1,x.2.1)
theorem atE_len (L:List Led) (k:Int):(atE L k).length<=L.length:=by
 unfold atE
 rw [List.length_map]
 exact List.length_filter_le _ _
theorem h_sl08Tree (n:Int) (L:List Led) (k:Int) (hL:L.length<=1048576):g_sl08Tree ((n,L),k)=some (atE L k,()):=by
 have hm:maxLen=9223372036854775807:=by decide
 show f_sl08Tree BIG _=_
 rw [e_sl08Tree]
 refine loop_bind (P:=fun o=>o=some (atE L k,())) (fun (s:List Ed × Int)=>∃i:Nat,s.2=i/\i<=L.length/\s.1=atE (L.take i) k) (fun s=>L.length-s.2.toNat)
  (fun _ (V:List Ed)=>V=atE L k) (by simp [BIG];omega) ⟨0,rfl,by omega,rfl⟩ (fun self s hx hs => ?_) (fun V hV=>by rw [hV])
 obtain ⟨s,j⟩:=s
 obtain ⟨i,h1,h2,h3⟩:=hx
 simp only at h1 h2 h3 hs ⊢
 subst h1
 by_cases hi:i<L.length
 ·have hle:=atE_len (L.take i) k
  rw [List.length_take] at hle
  simp only [show ((i:Int)<(L.length:Int)) from by omega,decide_true,cond_true]
  rw [bnd_nat hi,List.getElem?_eq_getElem hi,Option.bind_some,wr1 (by omega)]
  have hn:atE (L.take (i+1)) k=atE (L.take i) k++(if L[i].2.2.2=true/\k<=L[i].2.2.1 then [(L[i].1,L[i].2.1)] else []):=by
   unfold atE
   rw [List.take_succ_eq_append_getElem hi,List.filter_append,List.map_append]
   congr 1
   by_cases h1:L[i].2.2.2=true<;>by_cases h2:k<=L[i].2.2.1<;>simp [h1,h2]
  cases ht:L[i].2.2.2 with
  | false=>
   rw [cond_false]
   simp only [Option.bind_some,cond_false]
   exact hs _ ⟨i+1,rfl,hi,by simp only;rw [hn,if_neg (fun h=>by rw [ht] at h;cases h.1),List.append_nil,h3]⟩ (by simp;omega)
  | true=>
   rw [cond_true]
   simp only [Option.bind_some]
   by_cases h2:k<=L[i].2.2.1
   ·rw [decide_eq_true h2,cond_true,decide_eq_true (by rw [h3];simp only [List.length_cons,List.length_nil];omega),cond_true,Option.bind_some]
    exact hs _ ⟨i+1,rfl,hi,by simp only;rw [hn,if_pos ⟨ht,h2⟩,h3]⟩ (by simp;omega)
   ·rw [decide_eq_false h2,cond_false,Option.bind_some]
    exact hs _ ⟨i+1,rfl,hi,by simp only;rw [hn,if_neg (fun h=>h2 h.2),List.append_nil,h3]⟩ (by simp;omega)
 ·simp only [show ¬((i:Int)<(L.length:Int)) from by omega,decide_false,cond_false]
  have:i=L.length:=by omega
  subst this
  exact ⟨_,rfl,by rw [h3,List.take_length]⟩
structure GT (n:Nat) (E:List Ed) (v:Int) (f:FT):Prop where
 nd:(v::f.vs).Nodup
 rg:∀x,x∈v::f.vs->0<=x/\x<n
 rt:RtO (ad E) v (-1) f
 gf:GF (ad E) f v
theorem h_sTourOfG {n:Nat} {E:List Ed} (hE:∀e,e∈E->edB n e=true) (h1:1<=n) (h2:n<=12) (hes:E.length<=1048576) (r:Int) (hr:0<=r/\r<n) :
  ∃t b,g_sTourOf ((n:Int),E,r)=some ((t,b),())/\(b=true->∃f,t=tr r f/\GT n E r f)/\(NoCyc E->b=true):=by
 have hm:maxLen=9223372036854775807:=by decide
 obtain ⟨t,ring,sn,e1,w1,w2,w3⟩:=walkG hE h2 hes 64 r (-1) (List.replicate n false) [] (by simp) hr (by rw [gD (List.getElem?_replicate_of_lt (show r.toNat<n by omega))]) (by simp) (by simp) (by simp;omega)
 have e2:g_sTourOf ((n:Int),E,r)=some (if ring=true then ([],false) else (t,true),()):=by
  show f_sTourOf BIG _=_
  rw [e_sTourOf,h_sl01In',show inB (n:Int) 1 12=true from inB_t.2 (by omega),Option.bind_some]
  simp only [Bool.not_true,cond_false]
  rw [wr (n:=(n:Int)-1) (by omega) (by omega),h_sl01In',show inB r 0 ((n:Int)-1)=true from inB_t.2 (by omega),Option.bind_some,Option.bind_some]
  simp only [Bool.not_true,cond_false]
  rw [hiLoop E (by omega) (fun y=>!edB n y) ([],false) (fun self i y hy => ?_) (fun self=>by simp)]
  ·have:E.any (fun y=>!edB n y)=false:=by
    rw [List.any_eq_false]
    intro y hy
    rw [hE y hy];simp
   rw [this]
   simp only [Bool.false_eq_true,if_false,Option.bind_some]
   rw [decide_eq_true (by omega),cond_true,decide_eq_true (by omega),cond_true,Int.toNat_natCast,e1]
   cases ring<;>rfl
  ·have hi:=(List.getElem?_eq_some_iff.1 hy).1
   simp only [show ((i:Int)<(E.length:Int)) from by omega,decide_true,cond_true]
   rw [bnd_nat hi,hy,Option.bind_some,h_sEdgeOk,Option.bind_some,wr1 (by omega)]
   cases edB n y<;>rfl
 cases ring with
 | true=>
  refine ⟨[],false,e2,fun h=>(by cases h),fun hN => ?_⟩
  have:=(w3 ⟨hN,fun x hx _=>gD (List.getElem?_replicate_of_lt hx)⟩).1
  cases this
 | false=>
  refine ⟨t,true,e2,fun _ => ?_,fun _=>rfl⟩
  obtain ⟨f,rfl,k1,k2,k3,k4,k5⟩:=w2 rfl
  exact ⟨f,rfl,k1,fun x hx=>(k2 x hx).1,k4,k5⟩
theorem GF_pr {pa:Int->Int->Prop}:∀(f:FT) (v:Int),(∀w,w∈f.rts->pa w v\/pa v w)->GF pa f v->∀{a b:Int},(a,b)∈f.pr v->pa b a\/pa a b
 | .nil,_,_,_,_,_,h=>by cases h
 | .nd w c s,v,hr,⟨⟨hR,hG⟩,hS⟩,a,b,h=>by
  simp only [FT.pr,List.mem_cons,List.mem_append,Prod.mk.injEq] at h
  rcases h with ⟨rfl,rfl⟩|h|h
  ·exact hr _ (List.mem_cons_self ..)
  ·exact GF_pr c w (fun x hx=>((hR.2 x).1 hx).2) hG h
  ·exact GF_pr s v (fun x hx=>hr x (List.mem_cons_of_mem _ hx)) hS h
theorem rts_pr:∀(f:FT) (v:Int) {z:Int},z∈f.rts->(v,z)∈f.pr v
 | .nil,_,_,h=>by cases h
 | .nd w c s,v,z,h=>by
  simp only [FT.rts,List.mem_cons] at h
  simp only [FT.pr,List.mem_cons,List.mem_append]
  rcases h with rfl|h
  ·exact .inl rfl
  ·exact .inr (.inr (rts_pr s v h))
theorem GF_edge {pa:Int->Int->Prop}:∀(f:FT) (v:Int),GF pa f v->∀y,y∈f.vs->∀z,(pa z y\/pa y z)->(y,z)∈f.pr v\/(z,y)∈f.pr v
 | .nil,_,_,y,h,_,_=>by cases h
 | .nd w c s,v,⟨⟨hR,hG⟩,hS⟩,y,h,z,hz=>by
  simp only [FT.vs,List.mem_cons,List.mem_append] at h
  simp only [FT.pr,List.mem_cons,List.mem_append]
  rcases h with rfl|h|h
  ·by_cases hzv:z=v
   ·subst hzv;exact .inr (.inl rfl)
   ·exact .inl (.inr (.inl (rts_pr c y ((hR.2 z).2 ⟨hzv,hz⟩))))
  ·rcases GF_edge c w hG y h z hz with h|h
   ·exact .inl (.inr (.inl h))
   ·exact .inr (.inr (.inl h))
  ·rcases GF_edge s v hS y h z hz with h|h
   ·exact .inl (.inr (.inr h))
   ·exact .inr (.inr (.inr h))
theorem GF_sub {pa:Int->Int->Prop}:∀(f:FT) (v:Int),(v::f.vs).Nodup->GF pa f v->∀{p w:Int},(p,w)∈f.pr v->∃c:FT,RtO pa w p c/\GF pa c w/\p∉w::c.vs
 | .nil,_,_,_,_,_,h=>by cases h
 | .nd u c s,v,hn,⟨⟨hR,hG⟩,hS⟩,p,w,h=>by
  have hn':(v::(u::(c.vs++s.vs))).Nodup:=hn
  rw [List.nodup_cons,List.nodup_cons,List.nodup_append] at hn'
  obtain ⟨n1,n2,n3,n4,n5⟩:=hn'
  simp only [FT.pr,List.mem_cons,List.mem_append,Prod.mk.injEq] at h
  rcases h with ⟨rfl,rfl⟩|h|h
  ·refine ⟨c,hR,hG,fun hm=>n1 ?_⟩
   rw [List.mem_cons] at hm
   rcases hm with hm|hm
   ·rw [hm];exact List.mem_cons_self ..
   ·exact List.mem_cons_of_mem _ (List.mem_append_left _ hm)
  ·exact GF_sub c u (List.nodup_cons.2 ⟨fun hm=>n2 (List.mem_append_left _ hm),n3⟩) hG h
  ·exact GF_sub s v (List.nodup_cons.2 ⟨fun hm=>n1 (List.mem_cons_of_mem _ (List.mem_append_right _ hm)),n4⟩) hS h
section
variable {n:Nat} {E:List Ed} (hE:∀e,e∈E->edB n e=true) {v:Int} {f:FT} (h:GT n E v f)
include hE h
theorem GT.con (x:Int):x∈v::f.vs↔Con E v x:=by
 constructor
 ·intro hx
  rw [List.mem_cons] at hx
  rcases hx with rfl|hx
  ·exact .refl _
  ·refine pr_reach f v (Con E v) (.refl _) (fun a b hab ha => ?_) x hx
   have:=GF_pr f v (fun w hw=>((h.rt.2 w).1 hw).2) h.gf hab
   have had:ad E a b:=by
    rcases this with h|h
    ·exact ad_symm h
    ·exact h
   exact ha.trans (con_ed ((ed_ad hE).2 had))
 ·intro hc
  have step:∀y z,y∈v::f.vs->ad E y z->z∈v::f.vs:=by
   intro y z hy hz
   rw [List.mem_cons] at hy
   rcases hy with rfl|hy
   ·have:=ad_rg hE hz
    exact List.mem_cons_of_mem _ (rts_vs f ((h.rt.2 z).2 ⟨by omega,.inr hz⟩))
   ·rcases GF_closed f v h.gf y hy z (.inr hz) with h|h
    ·exact List.mem_cons_of_mem _ h
    ·rw [h];exact List.mem_cons_self ..
  induction hc with
  | refl=>exact List.mem_cons_self ..
  | fwd _ he ih=>exact step _ _ ih (.inl he)
  | bwd _ he ih=>exact step _ _ ih (.inr he)
theorem GT.bridge {p w:Int} (hp:(p,w)∈f.pr v):¬Con (mE E (ed p w)) w p:=by
 obtain ⟨c,c1,c2,c3⟩:=GF_sub f v h.nd h.gf hp
 intro hc
 apply c3
 have step:∀y z,y∈w::c.vs->ad E y z->ed y z≠ed p w->z∈w::c.vs:=by
  intro y z hy hz hne
  rw [List.mem_cons] at hy
  rcases hy with rfl|hy
  ·refine List.mem_cons_of_mem _ (rts_vs c ((c1.2 z).2 ⟨?_,.inr hz⟩))
   rintro rfl
   exact hne (ed_comm _ _)
  ·rcases GF_closed c w c2 y hy z (.inr hz) with h|h
   ·exact List.mem_cons_of_mem _ h
   ·rw [h];exact List.mem_cons_self ..
 have all:∀x,Con (mE E (ed p w)) w x->x∈w::c.vs:=by
  intro x hc
  induction hc with
  | refl=>exact List.mem_cons_self ..
  | fwd _ he ih=>
   obtain ⟨h1,h2⟩:=mem_mE.1 he
   have:=edB_f (hE _ h1)
   refine step _ _ ih (.inl h1) ?_
   unfold ed at h2 ⊢
   rw [if_pos this.2.1];exact h2
  | bwd _ he ih=>
   obtain ⟨h1,h2⟩:=mem_mE.1 he
   have:=edB_f (hE _ h1)
   refine step _ _ ih (.inr h1) ?_
   rw [ed_comm]
   unfold ed at h2 ⊢
   rw [if_pos this.2.1];exact h2
 exact all p hc
theorem GT.edge {a b:Int} (ha:a∈v::f.vs) (hab:ad E a b):(a,b)∈f.pr v\/(b,a)∈f.pr v:=by
 rw [List.mem_cons] at ha
 rcases ha with rfl|ha
 ·have:=ad_rg hE hab
  exact .inl (rts_pr f a ((h.rt.2 b).2 ⟨by omega,.inr hab⟩))
 ·exact GF_edge f v h.gf a ha b (.inr hab)
omit hE in
theorem GT.trok (h12:n<=12):TrOk v f:=⟨h.nd,fun x hx=>by have:=h.rg x hx;omega⟩
end
theorem nocyc_trees {n:Nat} {E:List Ed} (hE:∀e,e∈E->edB n e=true) (h:∀e,e∈E->∃v f,GT n E v f/\e.1∈v::f.vs):NoCyc E:=by
 rintro ⟨a,b⟩ he hc
 obtain ⟨v,f,hg,ha⟩:=h _ he
 have hlt:=edB_f (hE _ he)
 simp only at hc ha hlt
 have h1:ed a b=(a,b):=by unfold ed;rw [if_pos hlt.2.1]
 rcases hg.edge hE ha (.inl he) with h|h
 ·refine hg.bridge hE h ?_
  rw [h1];exact hc.symm
 ·refine hg.bridge hE h ?_
  rw [ed_comm,h1];exact hc
structure FoOk (n:Nat) (E:List Ed) (Fs:List (Int × FT)):Prop where
 gt:∀p,p∈Fs->GT n E p.1 p.2
 mn:∀p,p∈Fs->∀x,x∈p.1::p.2.vs->p.1<=x
 so:Fs.Pairwise (fun p q=>p.1<q.1)
 cv:∀x:Int,0<=x->x<n->∃p,p∈Fs/\x∈p.1::p.2.vs
def trs (Fs:List (Int × FT)):List (List Int):=Fs.map fun p=>tr p.1 p.2
theorem trs_get {Fs:List (Int × FT)} {i:Nat} {p:Int × FT} (h:Fs[i]?=some p):(trs Fs)[i]?=some (tr p.1 p.2):=by
 unfold trs;rw [List.getElem?_map,h];rfl
theorem trs_len (Fs:List (Int × FT)):(trs Fs).length=Fs.length:=by unfold trs;rw [List.length_map]
section
variable {n:Nat} {E:List Ed} (hE:∀e,e∈E->edB n e=true) {Fs:List (Int × FT)} (h:FoOk n E Fs)
include hE h
theorem FoOk.nocyc:NoCyc E:=nocyc_trees hE fun e he=>by
 have:=edB_f (hE e he)
 obtain ⟨p,h1,h2⟩:=h.cv e.1 (by omega) (by omega)
 exact ⟨p.1,p.2,h.gt p h1,h2⟩
theorem FoOk.same {p q:Int × FT} (hp:p∈Fs) (hq:q∈Fs) {x y:Int} (hx:x∈p.1::p.2.vs) (hy:y∈q.1::q.2.vs) (hc:Con E x y):p.1=q.1:=by
 have c1:=((h.gt p hp).con hE x).1 hx
 have c2:=((h.gt q hq).con hE y).1 hy
 have c3:Con E p.1 q.1:=(c1.trans hc).trans c2.symm
 have l1:=h.mn p hp q.1 (((h.gt p hp).con hE _).2 c3)
 have l2:=h.mn q hq p.1 (((h.gt q hq).con hE _).2 c3.symm)
 omega
theorem FoOk.idx {i j:Nat} {p q:Int × FT} (hp:Fs[i]?=some p) (hq:Fs[j]?=some q) {x y:Int} (hx:x∈p.1::p.2.vs) (hy:y∈q.1::q.2.vs) (hc:Con E x y):i=j:=by
 have h0:=h.same hE (List.mem_of_getElem? hp) (List.mem_of_getElem? hq) hx hy hc
 obtain ⟨hi,rfl⟩:=List.getElem?_eq_some_iff.1 hp
 obtain ⟨hj,rfl⟩:=List.getElem?_eq_some_iff.1 hq
 by_cases h1:i<j
 ·have:=List.pairwise_iff_getElem.1 h.so i j hi hj h1
  omega
 ·by_cases h2:j<i
  ·have:=List.pairwise_iff_getElem.1 h.so j i hj hi h2
   omega
  ·omega
omit hE in
theorem FoOk.size:Fs.length<=n:=by
 have:=nodup_le n (Fs.map (·.1)) (by
  have:(Fs.map (·.1)).Pairwise (· < ·):=by rw [List.pairwise_map];exact h.so
  exact this.imp fun h=>by omega) (fun x hx=>by
  obtain ⟨p,hp,rfl⟩:=List.mem_map.1 hx
  exact (h.gt p hp).rg _ (List.mem_cons_self ..))
 rwa [List.length_map] at this
end
theorem w_sForestAt {n:Nat} (L:List Led) (k:Int) (h1:1<=n) (h2:n<=12) (hL:L.length<=1048576) (hE:∀e,e∈atE L k->edB n e=true) :
  ∃r b,g_sForestAt (((n:Int),L),k)=some ((r.1,r.2,b),())/\(b=true↔NoCyc (atE L k))/\(b=true->∃Fs,r=((n:Int),trs Fs)/\FoOk n (atE L k) Fs):=by
 have hm:maxLen=9223372036854775807:=by decide
 have hel:=atE_len L k
 show ∃r b,f_sForestAt BIG _=_/\_
 rw [e_sForestAt,h_sl08Tree _ _ _ hL,Option.bind_some,h_sl01In',show inB (n:Int) 1 12=true from inB_t.2 (by omega),Option.bind_some]
 simp only [Bool.not_true,cond_false]
 generalize hEE:atE L k=E at hE hel ⊢
 refine loop_bind (x:=(((0:Int),[]),((n:Int),[]),[],(0:Int))) (P:=fun o=>∃(r:Int × List (List Int)) (b:Bool),o=some ((r.1,r.2,b),())/\(b=true↔NoCyc E)/\(b=true->∃Fs,r=((n:Int),trs Fs)/\FoOk n E Fs))
  (fun (s:(Int × List (List Int)) × (Int × List (List Int)) × List Int × Int)=>∃(i:Nat) (Fs:List (Int × FT)),s.2.2.2=(i:Int)/\i<=n/\s.2.1=((n:Int),trs Fs)/\(∀x,x∈s.2.2.1↔∃p,p∈Fs/\x∈p.1::p.2.vs)/\(∀p,p∈Fs->GT n E p.1 p.2/\p.1<i)/\(∀p,p∈Fs->∀x,x∈p.1::p.2.vs->p.1<=x)/\Fs.Pairwise (fun p q=>p.1<q.1)/\(∀x:Int,0<=x->x<i->∃p,p∈Fs/\x∈p.1::p.2.vs)/\Fs.length<=i/\s.2.2.1.length<=25*i)
  (fun s=>n-s.2.2.2.toNat) (fun _ (b:((Int × List (List Int)) × (Int × List (List Int))) ⊕ ((Int × List (List Int)) × Bool))=>(∃d Fs,b = .inl (d,((n:Int),trs Fs))/\FoOk n E Fs)\/(∃r,b = .inr (r,false)/\¬NoCyc E)) (by simp [BIG];omega)
  ⟨0,[],rfl,by omega,rfl,by simp,by simp,by simp,by simp,fun x h1 h2=>by omega,by simp,by simp⟩ (fun self s hx hs => ?_) (fun b hb => ?_)
 ·obtain ⟨dm,fo,dn,j⟩:=s
  obtain ⟨i,Fs,k1,k2,k3,k4,k5,k6,k7,k8,k9,k10⟩:=hx
  simp only at k1 k2 k3 k4 k5 k6 k7 k8 k9 k10 hs ⊢
  subst k1 k3
  by_cases hi:i<n
  ·simp only [show ((i:Int)<(n:Int)) from by omega,decide_true,cond_true]
   rw [h_sl05In dn i (by omega),Option.bind_some]
   by_cases hin:(i:Int)∈dn
   ·simp only [decide_eq_true hin,cond_true,Option.bind_some]
    rw [wr1 (by omega)]
    refine hs _ ⟨i+1,Fs,rfl,by omega,rfl,k4,fun p hp=>⟨(k5 p hp).1,by have:=(k5 p hp).2;omega⟩,k6,k7,fun x x1 x2 => ?_,by omega,by simp only;omega⟩ (by simp;omega)
    by_cases hx:x=(i:Int)
    ·subst hx;exact (k4 _).1 hin
    ·exact k8 x x1 (by omega)
   ·simp only [decide_eq_false hin,cond_false]
    obtain ⟨t,b,t1,t2,t3⟩:=h_sTourOfG hE h1 h2 (by omega) (i:Int) (by omega)
    rw [t1,Option.bind_some]
    cases b with
    | false=>
     simp only [Bool.not_false,cond_true,Option.bind_some]
     refine ⟨_,rfl,.inr ⟨_,rfl,fun hN => ?_⟩⟩
     have:=t3 hN
     cases this
    | true=>
     obtain ⟨f,rfl,hg⟩:=t2 rfl
     have hfl:f.vs.length<=11:=(hg.trok h2).len
     simp only [Bool.not_true,cond_false]
     rw [decide_eq_true (by simp only [trs_len,List.length_cons,List.length_nil];omega),cond_true,decide_eq_true (by rw [tr_len];omega),cond_true,Option.bind_some]
     simp only
     rw [wr1 (by omega)]
     have hmem:∀q,q∈Fs++[((i:Int),f)]↔q∈Fs\/q=((i:Int),f):=fun q=>by rw [List.mem_append,List.mem_singleton]
     refine hs _ ⟨i+1,Fs++[((i:Int),f)],rfl,by omega,by simp [trs],fun x => ?_,fun p hp => ?_,fun p hp => ?_,?_,fun x x1 x2 => ?_,by simp only [List.length_append,List.length_cons,List.length_nil];omega,by simp only [List.length_append,tr_len];omega⟩ (by simp;omega)
     ·simp only [List.mem_append]
      rw [k4,tr_mem]
      constructor
      ·rintro (⟨p,p1,p2⟩|h)
       ·exact ⟨p,.inl p1,p2⟩
       ·exact ⟨_,.inr (List.mem_singleton.2 rfl),h⟩
      ·rintro ⟨p,p1|p1,p2⟩
       ·exact .inl ⟨p,p1,p2⟩
       ·rw [List.mem_singleton] at p1
        subst p1
        exact .inr p2
     ·rcases (hmem p).1 hp with hp|rfl
      ·exact ⟨(k5 p hp).1,by have:=(k5 p hp).2;omega⟩
      ·exact ⟨hg,by simp only;omega⟩
     ·rcases (hmem p).1 hp with hp|rfl
      ·exact k6 p hp
      ·intro x hx
       simp only at hx ⊢
       apply Classical.byContradiction
       intro hlt
       obtain ⟨q,q1,q2⟩:=k8 x (hg.rg x hx).1 (by omega)
       have c1:=((k5 q q1).1.con hE x).1 q2
       have c2:=(hg.con hE x).1 hx
       exact hin ((k4 _).2 ⟨q,q1,((k5 q q1).1.con hE _).2 (c1.trans c2.symm)⟩)
     ·rw [List.pairwise_append]
      refine ⟨k7,by simp,fun a ha b hb => ?_⟩
      rw [List.mem_singleton] at hb
      subst hb
      exact (k5 a ha).2
     ·by_cases hx:x=(i:Int)
      ·subst hx
       exact ⟨_,(hmem _).2 (.inr rfl),List.mem_cons_self ..⟩
      ·obtain ⟨q,q1,q2⟩:=k8 x x1 (by omega)
       exact ⟨q,(hmem q).2 (.inl q1),q2⟩
  ·simp only [show ¬((i:Int)<(n:Int)) from by omega,decide_false,cond_false]
   have:i=n:=by omega
   subst this
   exact ⟨_,rfl,.inl ⟨_,Fs,rfl,fun p hp=>(k5 p hp).1,k6,k7,k8⟩⟩
 ·rcases hb with ⟨d,Fs,rfl,hF⟩|⟨r,rfl,hN⟩
  ·exact ⟨((n:Int),trs Fs),true,rfl,⟨fun _=>hF.nocyc hE,fun _=>rfl⟩,fun _=>⟨Fs,rfl,hF⟩⟩
  ·exact ⟨r,false,rfl,⟨(fun h=>by cases h),fun h=>absurd h hN⟩,(fun h=>by cases h)⟩
theorem v_head {V:List Int} {x:Int} (hs:V.Pairwise (· < ·)) (hx:x∈V) (hm:∀y,y∈V->x<=y):V[0]?=some x:=by
 cases V with
 | nil=>cases hx
 | cons y V=>
  rw [List.pairwise_cons] at hs
  rw [List.mem_cons] at hx
  have h1:=hm y (List.mem_cons_self ..)
  rcases hx with rfl|hx
  ·rfl
  ·have:=hs.1 x hx
   omega
section
variable {n:Nat} {E:List Ed} (hE:∀e,e∈E->edB n e=true) {Fs:List (Int × FT)} (h:FoOk n E Fs) (h12:n<=12)
include h h12
theorem FoOk.verts {p:Int × FT} (hp:p∈Fs):∃V,g_sVertsOf (tr p.1 p.2)=some (V,())/\V.Pairwise (· < ·)/\(∀x,x∈V↔x∈p.1::p.2.vs)/\V.length=(p.1::p.2.vs).length/\V[0]?=some p.1/\V.length<=12:=by
 have hg:=h.gt p hp
 have hl:=(hg.trok h12).len
 obtain ⟨V,v1,v2,v3,v4⟩:=w_sVertsOf (tr p.1 p.2) (fun x hx=>(hg.trok h12).rg x ((tr_mem _ _ _).1 hx)) (by rw [tr_len];omega)
 have v5:∀x,x∈V↔x∈p.1::p.2.vs:=fun x=>by rw [v3,tr_mem]
 have vn:V.Nodup:=v2.imp fun h=>by omega
 have l1:=nodup_sub V (p.1::p.2.vs) vn fun x hx=>(v5 x).1 hx
 have l2:=nodup_sub (p.1::p.2.vs) V hg.nd fun x hx=>(v5 x).2 hx
 exact ⟨V,v1,v2,v5,by omega,v_head v2 ((v5 _).2 (List.mem_cons_self ..)) fun y hy=>h.mn p hp y ((v5 y).1 hy),v4⟩
include hE
theorem w_sForestOk (h1:1<=n):g_sForestOk ((n:Int),trs Fs)=some (true,()):=by
 have hm:maxLen=9223372036854775807:=by decide
 have hsz:=h.size
 have htl:=trs_len Fs
 show f_sForestOk BIG _=_
 rw [e_sForestOk,h_sl01In',show inB (n:Int) 1 12=true from inB_t.2 (by omega),Option.bind_some]
 simp only [Bool.not_true,cond_false]
 rw [decide_eq_false (by omega),Option.bind_some]
 simp only [cond_false]
 refine loop_bind (x:=((0:Int),(0:Int))) (P:=fun o=>o=some (true,())) (fun (s:Int × Int)=>∃(i:Nat) (acc:List Int),s.2=(i:Int)/\i<=Fs.length/\s.1=(acc.length:Int)/\acc.Nodup/\(∀x,x∈acc↔∃j:Nat,j<i/\∃p,Fs[j]?=some p/\x∈p.1::p.2.vs))
  (fun s=>Fs.length-s.2.toNat) (fun _ (b:Int ⊕ Bool)=>b = .inl (n:Int)) (by simp [BIG];omega) ⟨0,[],rfl,by omega,rfl,by simp,fun x=>by simp⟩ (fun self s hx hs => ?_) (fun b hb=>by subst hb;simp)
 obtain ⟨al,jj⟩:=s
 obtain ⟨i,acc,k1,k2,k3,k4,k5⟩:=hx
 simp only at k1 k2 k3 k4 k5 hs ⊢
 subst k1 k3
 have hrng:∀x,x∈acc->0<=x/\x<n:=fun x hx=>by
  obtain ⟨j,_,p,h2,h3⟩:=(k5 x).1 hx
  exact (h.gt p (List.mem_of_getElem? h2)).rg x h3
 have hal:=nodup_le n acc k4 hrng
 by_cases hi:i<Fs.length
 ·have hp:=List.getElem?_eq_getElem hi
  generalize hpe:Fs[i]=p at hp
  have hpm:=List.mem_of_getElem? hp
  have hg:=h.gt p hpm
  obtain ⟨V,v1,v2,v3,v4,v5,v6⟩:=h.verts h12 hpm
  have hV0:0<V.length:=by rw [v4];simp
  have bi:∀{B:Type} {k:Nat->Option B},bnd (trs Fs).length (i:Int) k=k i:=fun {B k}=>bnd_nat (by omega)
  have hti:=trs_get hp
  simp only [show ((i:Int)<((trs Fs).length:Int)) from by omega,decide_true,cond_true,bi,hti,Option.bind_some,w_sTourOk (hg.trok h12),Bool.not_true,cond_false,v1]
  have hwl:IntKind.wrap .i64 ((V.length:Int)-1)=((V.length-1:Nat):Int):=by rw [wr (by omega) (by omega)];omega
  have hlast:V[V.length-1]?=some V[V.length-1]:=List.getElem?_eq_getElem (by omega)
  have hlr:=hg.rg _ ((v3 _).1 (List.getElem_mem (show V.length-1<V.length by omega)))
  rw [hwl,bnd_nat (by omega),hlast,Option.bind_some,decide_eq_false (by omega),cond_false]
  have hcond:(bif decide ((0:Int)<(i:Int)) then
    bnd (trs Fs).length (IntKind.wrap .i64 ((i:Int)-(1:Int))) fun n12=>
    Option.bind (trs Fs)[n12]? fun y13=>
    Option.bind (g_sVertsOf y13) fun r14=>
    bnd r14.1.length (0:Int) fun n15=>
    Option.bind r14.1[n15]? fun y16=>
    bnd V.length (0:Int) fun n17=>
    Option.bind V[n17]? fun y18=>
    some (decide (y18<=y16))
    else some false)=some false:=by
   by_cases h0:0<i
   ·have hw:IntKind.wrap .i64 ((i:Int)-1)=((i-1:Nat):Int):=by rw [wr (by omega) (by omega)];omega
    have hq:=List.getElem?_eq_getElem (show i-1<Fs.length by omega)
    generalize hqe:Fs[i-1]=q at hq
    obtain ⟨W,w1,w2,w3,w4,w5,w6⟩:=h.verts h12 (List.mem_of_getElem? hq)
    have hW0:0<W.length:=by rw [w4];simp
    have hlt:=List.pairwise_iff_getElem.1 h.so (i-1) i (by omega) hi (by omega)
    rw [hqe,hpe] at hlt
    rw [decide_eq_true (by omega),cond_true,hw,bnd_nat (by omega),trs_get hq,Option.bind_some,w1,Option.bind_some,bnd_ok (by omega) (by simp only;omega)]
    simp only
    rw [show Int.toNat 0=0 from rfl,w5,Option.bind_some,bnd_ok (by omega) (by omega),show Int.toNat 0=0 from rfl,v5,Option.bind_some,decide_eq_false (by omega)]
   ·rw [decide_eq_false (by omega),cond_false]
  rw [hcond,Option.bind_some,cond_false]
  refine loop_bind (x:=(0:Int)) (P:=fun o=>∃b:Int ⊕ Bool,o=some b/\b = .inl (n:Int)) (fun (s:Int)=>∃j:Nat,s=(j:Int)/\j<=i) (fun s=>i-s.toNat) (fun _ (b:Int ⊕ Bool)=>b = .inl (((acc++(p.1::p.2.vs)).length:Nat):Int)) (by simp [BIG];omega) ⟨0,rfl,by omega⟩ (fun self2 s hx2 hs2 => ?_) (fun b hb => ?_)
  ·obtain ⟨j,rfl,hj⟩:=hx2
   by_cases hji:j<i
   ·have hq:=List.getElem?_eq_getElem (show j<Fs.length by omega)
    generalize hqe:Fs[j]=q at hq
    have htj:=trs_get hq
    have bj:∀{B:Type} {k:Nat->Option B},bnd (trs Fs).length (j:Int) k=k j:=fun {B k}=>bnd_nat (by omega)
    have hql:=((h.gt q (List.mem_of_getElem? hq)).trok h12).len
    simp only [show ((j:Int)<(i:Int)) from by omega,decide_true,cond_true,bj,htj,Option.bind_some]
    rw [hiLoop V (by omega) (fun y=>decide (y∈tr q.1 q.2)) false (fun self3 m y hy => ?_) (fun self3=>by simp)]
    ·have hno:V.any (fun y=>decide (y∈tr q.1 q.2))=false:=by
      rw [List.any_eq_false]
      intro y hy
      rw [decide_eq_true_eq,tr_mem]
      intro hy2
      have:=h.idx hE hq hp hy2 ((v3 y).1 hy) (.refl _)
      omega
     rw [hno]
     simp only [Bool.false_eq_true,if_false,Option.bind_some]
     rw [wr1 (by omega)]
     exact hs2 _ ⟨j+1,rfl,by omega⟩ (by simp;omega)
    ·have hm':=(List.getElem?_eq_some_iff.1 hy).1
     simp only [show ((m:Int)<(V.length:Int)) from by omega,decide_true,cond_true]
     rw [bnd_nat hm',hy,Option.bind_some,h_sl05In _ _ (by rw [tr_len];omega),Option.bind_some,wr1 (by omega)]
     by_cases hy':y∈tr q.1 q.2<;>simp [hy']
   ·simp only [show ¬((j:Int)<(i:Int)) from by omega,decide_false,cond_false]
    refine ⟨_,rfl,?_⟩
    rw [wr (by omega) (by omega),List.length_append,<-v4]
    rfl
  ·subst hb
   simp only
   rw [wr1 (by omega)]
   refine hs _ ⟨i+1,acc++(p.1::p.2.vs),rfl,hi,rfl,?_,fun x => ?_⟩ (by simp;omega)
   ·rw [List.nodup_append]
    refine ⟨k4,hg.nd,fun a ha b hb hab => ?_⟩
    subst hab
    obtain ⟨j,j1,q,q1,q2⟩:=(k5 a).1 ha
    have:=h.idx hE q1 hp q2 hb (.refl _)
    omega
   ·rw [List.mem_append,k5]
    constructor
    ·rintro (⟨j,j1,j2⟩|hx)
     ·exact ⟨j,by omega,j2⟩
     ·exact ⟨i,by omega,p,hp,hx⟩
    ·rintro ⟨j,j1,q,q1,q2⟩
     by_cases hji:j=i
     ·subst hji
      rw [hp] at q1
      cases q1
      exact .inr q2
     ·exact .inl ⟨j,by omega,q,q1,q2⟩
 ·simp only [show ¬((i:Int)<((trs Fs).length:Int)) from by omega,decide_false,cond_false]
  refine ⟨_,rfl,?_⟩
  have hin:i=Fs.length:=by omega
  subst hin
  have hge:=nodup_sub ((List.range n).map fun (x:Nat)=>(x:Int)) acc (nodup_mp _ _ List.nodup_range fun a _ b _ h=>by omega) fun x hx=>by
   obtain ⟨y,hy,rfl⟩:=List.mem_map.1 hx
   rw [List.mem_range] at hy
   obtain ⟨p,p1,p2⟩:=h.cv (y:Int) (by omega) (by omega)
   obtain ⟨j,hj,hjp⟩:=List.mem_iff_getElem.1 p1
   exact (k5 _).2 ⟨j,hj,p,by rw [List.getElem?_eq_getElem hj,hjp],p2⟩
  rw [List.length_map,List.length_range] at hge
  rw [show acc.length=n from by omega]
theorem w_sTreeOf (h1:1<=n) (x:Int) (h0:0<=x) (hx:x<n):∃(j:Nat) (p:Int × FT),Fs[j]?=some p/\x∈p.1::p.2.vs/\g_sTreeOf (((n:Int),trs Fs),x)=some ((j:Int),()):=by
 have hm:maxLen=9223372036854775807:=by decide
 have hsz:=h.size
 have htl:=trs_len Fs
 show ∃(j:Nat) (p:Int × FT),_/\_/\f_sTreeOf BIG _=_
 rw [e_sTreeOf,w_sForestOk hE h h12 h1,Option.bind_some]
 simp only [Bool.not_true,cond_false]
 refine loop_bind (x:=(0:Int)) (P:=fun o=>∃(j:Nat) (p:Int × FT),Fs[j]?=some p/\x∈p.1::p.2.vs/\o=some ((j:Int),())) (fun (s:Int)=>∃i:Nat,s=(i:Int)/\i<=Fs.length/\∀j p,j<i->Fs[j]?=some p->x∉p.1::p.2.vs) (fun s=>Fs.length-s.toNat)
  (fun _ (b:Unit ⊕ Int)=>∃(j:Nat) (p:Int × FT),Fs[j]?=some p/\x∈p.1::p.2.vs/\b = .inr (j:Int)) (by simp [BIG];omega) ⟨0,rfl,by omega,fun j p hj=>by omega⟩ (fun self s hx' hs => ?_) (fun b hb => ?_)
 ·obtain ⟨i,rfl,k2,k3⟩:=hx'
  by_cases hi:i<Fs.length
  ·have hp:=List.getElem?_eq_getElem hi
   generalize hpe:Fs[i]=p at hp
   have hl:=((h.gt p (List.mem_of_getElem? hp)).trok h12).len
   simp only [show ((i:Int)<((trs Fs).length:Int)) from by omega,decide_true,cond_true]
   rw [bnd_nat (by omega),trs_get hp,Option.bind_some,h_sl05In _ _ (by rw [tr_len];omega),Option.bind_some,wr1 (by omega)]
   by_cases hin:x∈tr p.1 p.2
   ·simp only [decide_eq_true hin,cond_true]
    exact ⟨_,rfl,i,p,hp,(tr_mem _ _ _).1 hin,rfl⟩
   ·simp only [decide_eq_false hin,cond_false]
    refine hs _ ⟨i+1,rfl,hi,fun j q hj hq => ?_⟩ (by simp;omega)
    by_cases hji:j=i
    ·subst hji
     rw [hp] at hq
     cases hq
     rw [<-tr_mem];exact hin
    ·exact k3 j q (by omega) hq
  ·exfalso
   obtain ⟨p,p1,p2⟩:=h.cv x h0 hx
   obtain ⟨j,hj,hjp⟩:=List.mem_iff_getElem.1 p1
   exact k3 j p (by omega) (by rw [List.getElem?_eq_getElem hj,hjp]) p2
 ·obtain ⟨j,p,h1,h2,rfl⟩:=hb
  exact ⟨j,p,h1,h2,rfl⟩
end
def gE (L:List Led):List Ed:=L.map fun x=>(x.1,x.2.1)
def trE (L:List Led):List Ed:=(L.filter fun x=>x.2.2.2).map fun x=>(x.1,x.2.1)
def lbl (n:Nat) (L:List Led) (k:Int) (v:Int):Int:=(labs n (atE L k)).getD v.toNat 0
def cmp (n:Nat) (L:List Led) (k:Int) (v:Int):Nat:=(labs n (atE L k)).count (lbl n L k v)
structure WOk (n:Nat) (L:List Led):Prop where
 gr:grB n (gE L)=true
 lv:∀x,x∈L->0<=x.2.2.1/\x.2.2.1<=4
 nc:NoCyc (atE L 0)
 un:∀x,x∈L->x.2.2.2=false->lbl n L x.2.2.1 x.1=lbl n L x.2.2.1 x.2.1
 sz:∀k:Nat,1<=k->k<=4->∀e,e∈atE L k->cmp n L k e.1<=n / 2 ^ k
theorem atE_sub (L:List Led) (k:Int):(atE L k).Sublist (gE L):=List.Sublist.map _ List.filter_sublist
theorem trE_sub (L:List Led):(trE L).Sublist (gE L):=List.Sublist.map _ List.filter_sublist
theorem atE_mono {L:List Led} {j k:Int} (h:j<=k):∀e,e∈atE L k->e∈atE L j:=by
 intro e he
 unfold atE at he ⊢
 rw [List.mem_map] at he ⊢
 obtain ⟨x,h1,h2⟩:=he
 refine ⟨x,?_,h2⟩
 simp only [List.mem_filter,Bool.and_eq_true,decide_eq_true_eq] at h1 ⊢
 exact ⟨h1.1,h1.2.1,by omega⟩
theorem trE_0 {L:List Led} (h:∀x,x∈L->0<=x.2.2.1/\x.2.2.1<=4):trE L=atE L 0:=by
 unfold trE atE
 congr 1
 apply List.filter_congr
 intro x hx
 rw [decide_eq_true (h x hx).1,Bool.and_true]
section
variable {n:Nat} {L:List Led} (hg:grB n (gE L)=true)
include hg
theorem gr_n:1<=n/\n<=12:=by
 unfold grB at hg
 rw [Bool.and_eq_true,inB_t] at hg
 omega
theorem gr_e:(∀e,e∈gE L->edB n e=true)/\(gE L).Nodup/\L.length<=66:=by
 unfold grB at hg
 rw [Bool.and_eq_true] at hg
 obtain ⟨h1,h2,h3⟩:=eOk_srt hg.2
 refine ⟨h1,h2.imp fun {a b} h => ?_,by unfold gE at h3;rwa [List.length_map] at h3⟩
 rintro rfl
 unfold lsB at h
 simp at h
theorem gr_at (k:Int):(∀e,e∈atE L k->edB n e=true)/\(atE L k).Nodup/\(atE L k).length<=66:=by
 obtain ⟨h1,h2,h3⟩:=gr_e hg
 refine ⟨fun e he=>h1 e ((atE_sub L k).subset he),h2.sublist (atE_sub L k),?_⟩
 have:=(atE_sub L k).length_le
 unfold gE at this
 rw [List.length_map] at this
 omega
theorem gr_ein (k:Int):EIn n (atE L k):=fun e he=>by
 have:=edB_in ((gr_at hg k).1 e he)
 exact ⟨this.1,this.2.1,this.2.2.1,this.2.2.2.1⟩
theorem lbl_iff (k:Int) {u v:Int} (hu:0<=u/\u<n) (hv:0<=v/\v<n):lbl n L k u=lbl n L k v↔Con (atE L k) u v:=by
 have hl:=labs_ok (gr_ein hg k)
 have:=hl.iff (getD_at (show u.toNat<(labs n (atE L k)).length by rw [labs_len];omega)) (getD_at (show v.toNat<(labs n (atE L k)).length by rw [labs_len];omega))
 rw [Int.toNat_of_nonneg hu.1,Int.toNat_of_nonneg hv.1] at this
 exact this
end
theorem h_iforest (n:Int) (L:List Led) (k:Int) (hL:L.length<=1048576):g_iforest ((n,L),k)=some (atE L k,()):=by
 rw [<-h_sl08Tree n L k hL]
 show f_iforest BIG _=f_sl08Tree BIG _
 rw [e_iforest,e_sl08Tree]
 all_goals rfl
theorem h_itreeEdges (n:Int) (L:List Led) (hL:L.length<=1048576):g_itreeEdges (n,L)=some (trE L,()):=by
 have hm:maxLen=9223372036854775807:=by decide
 have hle:∀L:List Led,(trE L).length<=L.length:=fun L=>by
  unfold trE
  rw [List.length_map]
  exact List.length_filter_le _ _
 show f_itreeEdges BIG _=_
 rw [e_itreeEdges]
 refine loop_bind (x:=([],(0:Int))) (P:=fun o=>o=some (trE L,())) (fun (s:List Ed × Int)=>∃i:Nat,s.2=i/\i<=L.length/\s.1=trE (L.take i)) (fun s=>L.length-s.2.toNat)
  (fun _ (V:List Ed)=>V=trE L) (by simp [BIG];omega) ⟨0,rfl,by omega,rfl⟩ (fun self s hx hs => ?_) (fun V hV=>by rw [hV])
 obtain ⟨s,j⟩:=s
 obtain ⟨i,h1,h2,h3⟩:=hx
 simp only at h1 h2 h3 hs ⊢
 subst h1
 by_cases hi:i<L.length
 ·have hle':=hle (L.take i)
  rw [List.length_take] at hle'
  simp only [show ((i:Int)<(L.length:Int)) from by omega,decide_true,cond_true]
  rw [bnd_nat hi,List.getElem?_eq_getElem hi,Option.bind_some,wr1 (by omega)]
  have hn:trE (L.take (i+1))=trE (L.take i)++(if L[i].2.2.2=true then [(L[i].1,L[i].2.1)] else []):=by
   unfold trE
   rw [List.take_succ_eq_append_getElem hi,List.filter_append,List.map_append]
   congr 1
   by_cases h1:L[i].2.2.2=true<;>simp [h1]
  cases ht:L[i].2.2.2 with
  | false=>
   rw [cond_false,Option.bind_some]
   exact hs _ ⟨i+1,rfl,hi,by simp only;rw [hn,if_neg (by rw [ht];simp),List.append_nil,h3]⟩ (by simp;omega)
  | true=>
   rw [cond_true,decide_eq_true (by rw [h3];simp only [List.length_cons,List.length_nil];omega),cond_true,Option.bind_some]
   exact hs _ ⟨i+1,rfl,hi,by simp only;rw [hn,if_pos ht,h3]⟩ (by simp;omega)
 ·simp only [show ¬((i:Int)<(L.length:Int)) from by omega,decide_false,cond_false]
  have:i=L.length:=by omega
  subst this
  exact ⟨_,rfl,by rw [h3,List.take_length]⟩
theorem h_ilabelsAt {n:Nat} (L:List Led) (k:Int) (h12:n<=12) (hL:L.length<=1048576) (hE:EIn n (atE L k)):g_ilabelsAt (((n:Int),L),k)=some (labs n (atE L k),()):=by
 have hm:maxLen=9223372036854775807:=by decide
 have hel:=atE_len L k
 show f_ilabelsAt BIG _=_
 rw [e_ilabelsAt,h_ifirst n (by omega),Option.bind_some,h_iforest _ _ _ hL,Option.bind_some]
 generalize atE L k=E at hE hel ⊢
 refine loop_bind (x:=(lab0 n,(0:Int))) (P:=fun o=>o=some (labs n E,())) (fun (s:List Int × Int)=>∃i:Nat,s.2=i/\i<=E.length/\s.1=labs n (E.take i)) (fun s=>E.length-s.2.toNat)
  (fun _ (V:List Int)=>V=labs n E) (by simp [BIG];omega) ⟨0,rfl,by omega,rfl⟩ (fun self s hx hs => ?_) (fun V hV=>by rw [hV])
 obtain ⟨s,j⟩:=s
 obtain ⟨i,h1,h2,h3⟩:=hx
 simp only at h1 h2 h3 hs ⊢
 subst h1 h3
 by_cases hi:i<E.length
 ·have he:=hE _ (List.getElem_mem hi)
  have hll:=labs_len n (E.take i)
  simp only [show ((i:Int)<(E.length:Int)) from by omega,decide_true,cond_true]
  rw [bnd_nat hi,List.getElem?_eq_getElem hi,Option.bind_some,h_iunion _ _ _ he.1 (by omega) he.2.2.1 (by omega) (by omega),Option.bind_some,wr1 (by omega)]
  refine hs _ ⟨i+1,rfl,hi,?_⟩ (by simp;omega)
  simp only
  unfold labs
  rw [List.take_succ_eq_append_getElem hi,List.foldl_append]
  rfl
 ·simp only [show ¬((i:Int)<(E.length:Int)) from by omega,decide_false,cond_false]
  have:i=E.length:=by omega
  subst this
  exact ⟨_,rfl,by rw [List.take_length]⟩
theorem h_isizes (l:List Int) (c:Int) (hl:l.length<=1048576):g_isizes (l,c)=some ((l.count c:Int),()):=by
 have hm:maxLen=9223372036854775807:=by decide
 show f_isizes BIG _=_
 rw [e_isizes]
 refine loop_bind (x:=((0:Int),(0:Int))) (P:=fun o=>o=some ((l.count c:Int),())) (fun (s:Int × Int)=>∃i:Nat,s.2=i/\i<=l.length/\s.1=((l.take i).count c:Int)) (fun s=>l.length-s.2.toNat)
  (fun _ (V:Int)=>V=(l.count c:Int)) (by simp [BIG];omega) ⟨0,rfl,by omega,by simp⟩ (fun self s hx hs => ?_) (fun V hV=>by rw [hV])
 obtain ⟨s,j⟩:=s
 obtain ⟨i,h1,h2,h3⟩:=hx
 simp only at h1 h2 h3 hs ⊢
 subst h1 h3
 by_cases hi:i<l.length
 ·have hc:(l.take i).count c<=(l.take i).length:=List.count_le_length
  rw [List.length_take] at hc
  simp only [show ((i:Int)<(l.length:Int)) from by omega,decide_true,cond_true]
  rw [bnd_nat hi,List.getElem?_eq_getElem hi,Option.bind_some]
  have hn:(l.take (i+1)).count c=(l.take i).count c+(if l[i]=c then 1 else 0):=by
   rw [List.take_succ_eq_append_getElem hi,List.count_append,List.count_singleton]
   by_cases h:l[i]=c<;>simp [h]
  by_cases h:l[i]=c
  ·rw [decide_eq_true h,cond_true,wr1 (i:=List.count c (List.take i l)) (by omega),Option.bind_some,wr1 (i:=i) (by omega)]
   exact hs _ ⟨i+1,rfl,hi,by simp only;rw [hn,if_pos h]⟩ (by simp;omega)
  ·rw [decide_eq_false h,cond_false,Option.bind_some,wr1 (i:=i) (by omega)]
   exact hs _ ⟨i+1,rfl,hi,by simp only;rw [hn,if_neg h,Nat.add_zero]⟩ (by simp;omega)
 ·simp only [show ¬((i:Int)<(l.length:Int)) from by omega,decide_false,cond_false]
  have:i=l.length:=by omega
  subst this
  exact ⟨_,rfl,by rw [List.take_length]⟩
section
variable {n:Nat} {L:List Led} (hg:grB n (gE L)=true)
include hg
theorem h_ilevelOk (k:Nat) (hk:k<=4):g_ilevelOk (((n:Int),L),(k:Int))=some (decide (∀e,e∈atE L k->cmp n L k e.1<=n / 2 ^ k),()):=by
 have hm:maxLen=9223372036854775807:=by decide
 obtain ⟨h1,h12⟩:=gr_n hg
 obtain ⟨_,_,hL⟩:=gr_e hg
 obtain ⟨hE,hEn,hEl⟩:=gr_at hg k
 have hll:=labs_len n (atE L k)
 show f_ilevelOk BIG _=_
 rw [e_ilevelOk,h_ilabelsAt L k h12 (by omega) (gr_ein hg k),Option.bind_some,h_iforest _ _ _ (by omega),Option.bind_some]
 simp only
 rw [hiLoop (atE L k) (by omega) (fun e=>decide (n / 2 ^ k<cmp n L k e.1)) false (fun self i y hy => ?_) (fun self=>by simp)]
 ·by_cases h:∀e,e∈atE L k->cmp n L k e.1<=n / 2 ^ k
  ·rw [decide_eq_true h,if_neg]
   ·rfl
   ·intro h'
    obtain ⟨y,hy,hp⟩:=List.any_eq_true.1 h'
    rw [decide_eq_true_eq] at hp
    have:=h y hy
    omega
  ·rw [decide_eq_false h,if_pos]
   ·rfl
   ·apply Classical.byContradiction
    intro hno
    refine h fun e he => ?_
    apply Classical.byContradiction
    intro hlt
    exact hno (List.any_eq_true.2 ⟨e,he,by rw [decide_eq_true_eq];omega⟩)
 ·have hi:=(List.getElem?_eq_some_iff.1 hy).1
  have he:=edB_in (hE y (List.mem_of_getElem? hy))
  simp only [show ((i:Int)<((atE L k).length:Int)) from by omega,decide_true,cond_true]
  rw [bnd_nat hi,hy,Option.bind_some,bnd_ok he.1 (by omega),getD_at (by omega),Option.bind_some,h_isizes _ _ (by omega),Option.bind_some,decide_eq_false (by omega),cond_false,wr1 (by omega)]
  have h64:Nat.min (Int.toNat (k:Int)) (IntKind.bits .i64)=k:=by
   rw [Int.toNat_natCast]
   exact Nat.min_eq_left (by show k<=64;omega)
  have hdiv:Int.fdiv (n:Int) (2 ^ (Nat.min (Int.toNat (k:Int)) (IntKind.bits .i64)))=((n / 2 ^ k:Nat):Int):=by
   rw [h64,Int.fdiv_eq_ediv_of_nonneg _ (by exact_mod_cast Nat.zero_le (2 ^ k))]
   simp
  rw [hdiv]
  show (bif decide (((n / 2 ^ k:Nat):Int)<(cmp n L k y.1:Int)) then _ else _)=_
  by_cases hc:n / 2 ^ k<cmp n L k y.1
  ·rw [decide_eq_true (by omega),decide_eq_true hc];rfl
  ·rw [decide_eq_false (by omega),decide_eq_false hc];rfl
end
theorem w_iWebOk (n:Int) (L:List Led) (hL:L.length<=1048576):∃b,g_iWebOk (n,L)=some (b,())/\(b=true↔0<=n/\WOk n.toNat L):=by
 have hm:maxLen=9223372036854775807:=by decide
 show ∃b,f_iWebOk BIG _=_/\_
 have hG:g_iGraphOf (n,L)=some ((n,gE L),()):=h_iGraphOf n L hL
 rw [e_iWebOk,hG,Option.bind_some,w_iGraphOk _ _ (by unfold gE;rw [List.length_map];exact hL),Option.bind_some]
 by_cases hg:grB n (gE L)=true
 case neg=>
  rw [show grB n (gE L)=false by simpa using hg]
  simp only [Bool.not_false,cond_true,Option.bind_some]
  refine ⟨false,rfl,⟨(fun h=>by cases h),fun ⟨h1,h2⟩ => ?_⟩⟩
  have:=h2.gr
  rw [Int.toNat_of_nonneg h1] at this
  exact absurd this hg
 obtain ⟨m,rfl⟩:∃m:Nat,n=(m:Int):=by
  have:1<=n:=by
   have h:=hg
   unfold grB at h
   rw [Bool.and_eq_true,inB_t] at h
   omega
  exact ⟨n.toNat,by omega⟩
 rw [hg,Int.toNat_natCast]
 obtain ⟨h1,h12⟩:=gr_n hg
 obtain ⟨hgE,hgn,hL6⟩:=gr_e hg
 simp only [Bool.not_true,cond_false]
 rw [h_itreeEdges _ _ hL,Option.bind_some]
 have htl:(trE L).length<=66:=by
  have:=(trE_sub L).length_le
  unfold gE at this
  rw [List.length_map] at this
  omega
 obtain ⟨b,b1,b2⟩:=w_irings m (trE L) h1 h12 (by omega) (fun e he=>hgE e ((trE_sub L).subset he))
 rw [ring_iff (hgn.sublist (trE_sub L))] at b2
 rw [b1,Option.bind_some,Option.bind_some]
 cases b with
 | true=>
  rw [cond_true]
  refine ⟨false,rfl,⟨(fun h=>by cases h),fun ⟨_,h2⟩ => ?_⟩⟩
  have:=h2.nc
  rw [<-trE_0 h2.lv] at this
  exact absurd this (b2.1 rfl)
 | false=>
  have hnc:NoCyc (trE L):=by
   apply Classical.byContradiction
   intro h
   have:=b2.2 h
   cases this
  rw [cond_false]
  rw [hiLoop L (by omega) (fun x=>!inB x.2.2.1 0 4 || (!x.2.2.2 && !decide (lbl m L x.2.2.1 x.1=lbl m L x.2.2.1 x.2.1))) false (fun self i y hy => ?_) (fun self=>by simp)]
  ·by_cases hA:L.any (fun x=>!inB x.2.2.1 0 4 || (!x.2.2.2 && !decide (lbl m L x.2.2.1 x.1=lbl m L x.2.2.1 x.2.1)))=true
   ·rw [if_pos hA]
    refine ⟨false,rfl,⟨(fun h=>by cases h),fun ⟨_,h2⟩ => ?_⟩⟩
    obtain ⟨x,hx,hp⟩:=List.any_eq_true.1 hA
    rw [show inB x.2.2.1 0 4=true from inB_t.2 (h2.lv x hx)] at hp
    cases ht:x.2.2.2 with
    | true=>rw [ht] at hp;simp at hp
    | false=>
     rw [ht,decide_eq_true (h2.un x hx ht)] at hp
     simp at hp
   ·rw [if_neg hA,Option.bind_some]
    have hlu:∀x,x∈L->(0<=x.2.2.1/\x.2.2.1<=4)/\(x.2.2.2=false->lbl m L x.2.2.1 x.1=lbl m L x.2.2.1 x.2.1):=by
     intro x hx
     have hp:¬(!inB x.2.2.1 0 4 || (!x.2.2.2 && !decide (lbl m L x.2.2.1 x.1=lbl m L x.2.2.1 x.2.1)))=true:=fun h=>hA (List.any_eq_true.2 ⟨x,hx,h⟩)
     rw [Bool.or_eq_true,not_or] at hp
     constructor
     ·have:=hp.1
      cases hb:inB x.2.2.1 0 4 with
      | true=>exact inB_t.1 hb
      | false=>rw [hb] at this;simp at this
     ·intro ht
      have:=hp.2
      rw [ht] at this
      by_cases hl:lbl m L x.2.2.1 x.1=lbl m L x.2.2.1 x.2.1
      ·exact hl
      ·rw [decide_eq_false hl] at this;simp at this
    simp only
    refine loop_bind (x:=(1:Int)) (P:=fun o=>∃b,o=some (b,())/\(b=true↔0<=(m:Int)/\WOk m L)) (fun (s:Int)=>∃k:Nat,s=(k:Int)/\1<=k/\k<=5/\∀j:Nat,1<=j->j<k->∀e,e∈atE L j->cmp m L j e.1<=m / 2 ^ j) (fun s=>5-s.toNat)
     (fun _ (b:Unit ⊕ Bool)=>(b = .inl ()/\∀k:Nat,1<=k->k<=4->∀e,e∈atE L k->cmp m L k e.1<=m / 2 ^ k)\/(b = .inr false/\¬∀k:Nat,1<=k->k<=4->∀e,e∈atE L k->cmp m L k e.1<=m / 2 ^ k)) (by simp [BIG]) ⟨1,rfl,by omega,by omega,fun j h1 h2=>by omega⟩ (fun self s hx hs => ?_) (fun b hb => ?_)
    ·obtain ⟨k,rfl,k1,k2,k3⟩:=hx
     by_cases hk:k<=4
     ·rw [decide_eq_true (by omega),cond_true,h_ilevelOk hg k hk,Option.bind_some,wr1 (by omega)]
      by_cases hc:∀e,e∈atE L k->cmp m L k e.1<=m / 2 ^ k
      ·simp only [decide_eq_true hc,Bool.not_true,cond_false]
       refine hs _ ⟨k+1,rfl,by omega,by omega,fun j j1 j2 => ?_⟩ (by simp;omega)
       by_cases hjk:j=k
       ·subst hjk;exact hc
       ·exact k3 j j1 (by omega)
      ·simp only [decide_eq_false hc,Bool.not_false,cond_true]
       exact ⟨_,rfl,.inr ⟨rfl,fun h=>hc (h k k1 hk)⟩⟩
     ·rw [decide_eq_false (by omega),cond_false]
      exact ⟨_,rfl,.inl ⟨rfl,fun j j1 j2=>k3 j j1 (by omega)⟩⟩
    ·rcases hb with ⟨rfl,h⟩|⟨rfl,h⟩
     ·refine ⟨true,rfl,⟨fun _=>⟨by omega,hg,fun x hx=>(hlu x hx).1,?_,fun x hx=>(hlu x hx).2,h⟩,fun _=>rfl⟩⟩
      rw [<-trE_0 fun x hx=>(hlu x hx).1]
      exact hnc
     ·exact ⟨false,rfl,⟨(fun h=>by cases h),fun ⟨_,h2⟩=>absurd h2.sz h⟩⟩
  ·have hi:=(List.getElem?_eq_some_iff.1 hy).1
   have hye:=edB_in (hgE (y.1,y.2.1) (List.mem_map.2 ⟨y,List.mem_of_getElem? hy,rfl⟩))
   simp only at hye
   simp only [show ((i:Int)<(L.length:Int)) from by omega,decide_true,cond_true]
   rw [bnd_nat hi,hy,Option.bind_some,h_iin',Option.bind_some,wr1 (by omega)]
   cases hb:inB y.2.2.1 0 4 with
   | false=>rfl
   | true=>
    have hll:=labs_len m (atE L y.2.2.1)
    simp only [Bool.not_true,cond_false,Bool.false_or]
    rw [h_ilabelsAt L y.2.2.1 h12 hL (gr_ein hg _),Option.bind_some]
    cases ht:y.2.2.2 with
    | true=>rfl
    | false=>
     simp only [Bool.not_false,cond_true,Bool.true_and]
     rw [bnd_ok hye.1 (by omega),getD_at (by omega),Option.bind_some,bnd_ok hye.2.2.1 (by omega),getD_at (by omega),Option.bind_some,Option.bind_some]
     show (Option.bind (bif !decide (lbl m L y.2.2.1 y.1=lbl m L y.2.2.1 y.2.1) then _ else _) _)=_
     cases decide (lbl m L y.2.2.1 y.1=lbl m L y.2.2.1 y.2.1)<;>rfl
theorem w_iWebLabels (n:Nat) (L:List Led) (hL:L.length<=1048576):∃V,g_iWebLabels ((n:Int),L)=some (V,())/\(WOk n L->V=labs n (atE L 0))/\(¬WOk n L->V=[]):=by
 obtain ⟨b,b1,b2⟩:=w_iWebOk n L hL
 rw [Int.toNat_natCast] at b2
 show ∃V,f_iWebLabels BIG _=_/\_
 rw [e_iWebLabels,b1,Option.bind_some]
 cases b with
 | false=>exact ⟨[],rfl,fun h=>(by have:=b2.2 ⟨by omega,h⟩;cases this),fun _=>rfl⟩
 | true=>
  have h:=(b2.1 rfl).2
  have hg:=h.gr
  refine ⟨labs n (atE L 0),?_,fun _=>rfl,fun hn=>absurd h hn⟩
  simp only [Bool.not_true,cond_false]
  rw [h_ilabelsAt L 0 (gr_n hg).2 hL (gr_ein hg 0)]
  rfl
theorem cnt_eq (l:List Int) (c:Int):l.count c=((List.range l.length).filter fun i=>decide (l.getD i 0=c)).length:=by
 have h:l=(List.range l.length).map (fun i=>l.getD i 0):=by
  apply List.ext_getElem
  ·simp
  ·intro i h1 h2
   rw [List.getElem_map,List.getElem_range,List.getD_eq_getElem?_getD,List.getElem?_eq_getElem h1]
   rfl
 conv=>lhs;rw [h]
 rw [List.count,List.countP_map,List.countP_eq_length_filter]
 congr 1
section
variable {n:Nat} {L:List Led} (hg:grB n (gE L)=true)
include hg
theorem comp_len {k:Int} {Fs:List (Int × FT)} (hF:FoOk n (atE L k) Fs) {p:Int × FT} (hp:p∈Fs):(p.1::p.2.vs).length=cmp n L k p.1:=by
 have hE:=(gr_at hg k).1
 have hG:=hF.gt p hp
 have hp0:=hG.rg p.1 (List.mem_cons_self ..)
 unfold cmp
 rw [cnt_eq,labs_len]
 have hm:∀x:Int,x∈p.1::p.2.vs↔x∈((List.range n).filter fun i=>decide ((labs n (atE L k)).getD i 0=lbl n L k p.1)).map fun (i:Nat)=>(i:Int):=by
  intro x
  rw [List.mem_map]
  constructor
  ·intro hx
   have hr:=hG.rg x hx
   refine ⟨x.toNat,?_,by omega⟩
   rw [List.mem_filter,List.mem_range,decide_eq_true_eq]
   refine ⟨by omega,?_⟩
   exact (lbl_iff hg k hr hp0).2 ((hG.con hE x).1 hx).symm
  ·rintro ⟨y,hy,rfl⟩
   rw [List.mem_filter,List.mem_range,decide_eq_true_eq] at hy
   refine (hG.con hE _).2 ?_
   have:lbl n L k (y:Int)=lbl n L k p.1:=by
    unfold lbl
    rw [Int.toNat_natCast]
    exact hy.2
   exact ((lbl_iff hg k (by omega) hp0).1 this).symm
 have hn2:(((List.range n).filter fun i=>decide ((labs n (atE L k)).getD i 0=lbl n L k p.1)).map fun (i:Nat)=>(i:Int)).Nodup:=
  nodup_mp _ _ ((List.nodup_range (n:=n)).sublist List.filter_sublist) fun a _ b _ h=>by omega
 have l1:=nodup_sub _ _ hG.nd fun x hx=>(hm x).1 hx
 have l2:=nodup_sub _ _ hn2 fun x hx=>(hm x).2 hx
 rw [List.length_map] at l1 l2
 omega
theorem cmp_same {k:Int} {u v:Int} (hu:0<=u/\u<n) (hv:0<=v/\v<n) (h:Con (atE L k) u v):cmp n L k u=cmp n L k v:=by
 unfold cmp
 rw [(lbl_iff hg k hu hv).2 h]
theorem sz_iff {k:Int} {Fs:List (Int × FT)} (hF:FoOk n (atE L k) Fs) (B:Nat):(∀p,p∈Fs->1<(p.1::p.2.vs).length->(p.1::p.2.vs).length<=B)↔∀e,e∈atE L k->cmp n L k e.1<=B:=by
 have hE:=(gr_at hg k).1
 constructor
 ·intro h e he
  have hr:=edB_in (hE e he)
  obtain ⟨p,hp,hx⟩:=hF.cv e.1 hr.1 hr.2.1
  have hG:=hF.gt p hp
  have hc:=(hG.con hE e.1).1 hx
  have hx2:e.2∈p.1::p.2.vs:=(hG.con hE e.2).2 (.fwd hc he)
  have hne:e.1≠e.2:=by omega
  have hlen:1<(p.1::p.2.vs).length:=by
   have:=nodup_sub [e.1,e.2] (p.1::p.2.vs) (by simp [hne]) (fun y hy=>by
    simp only [List.mem_cons,List.not_mem_nil,or_false] at hy
    rcases hy with rfl|rfl
    ·exact hx
    ·exact hx2)
   simp only [List.length_cons,List.length_nil] at this ⊢
   omega
  have:=h p hp hlen
  rw [comp_len hg hF hp,cmp_same hg (hG.rg _ (List.mem_cons_self ..)) ⟨hr.1,hr.2.1⟩ hc] at this
  exact this
 ·intro h p hp hlen
  have hG:=hF.gt p hp
  have hp0:=hG.rg p.1 (List.mem_cons_self ..)
  obtain ⟨u,hu⟩:∃u,u∈p.2.vs:=by
   cases hv:p.2.vs with
   | nil=>rw [hv] at hlen;simp at hlen
   | cons u _=>exact ⟨u,List.mem_cons_self ..⟩
  have hne:u≠p.1:=by
   rintro rfl
   exact (List.nodup_cons.1 hG.nd).1 hu
  have hc:=(hG.con hE u).1 (List.mem_cons_of_mem _ hu)
  obtain ⟨x,y,d1,d2,d3⟩:=con_step (D:=fun z=>z=p.1) hc rfl hne
  subst d1
  rw [comp_len hg hF hp]
  rcases d3 with d3|d3
  ·exact h _ d3
  ·have hr:=edB_in (hE _ d3)
   simp only at hr
   rw [cmp_same hg hp0 ⟨hr.1,hr.2.1⟩ (.bwd (.refl _) d3)]
   exact h _ d3
def LvOk (n:Nat) (L:List Led) (k:Nat):Prop:=NoCyc (atE L k)/\(∀e,e∈atE L k->cmp n L k e.1<=n / 2 ^ k)/\∀x,x∈L->x.2.2.2=false->x.2.2.1=k->lbl n L k x.1=lbl n L k x.2.1
theorem wok_iff (hlv:∀x,x∈L->0<=x.2.2.1/\x.2.2.1<=4):WOk n L↔∀k:Nat,k<5->LvOk n L k:=by
 constructor
 ·intro h k hk
  refine ⟨h.nc.sub (atE_mono (by omega)),?_,fun x hx ht hl => ?_⟩
  ·by_cases h0:k=0
   ·subst h0
    intro e he
    have:cmp n L ((0:Nat):Int) e.1<=(labs n (atE L ((0:Nat):Int))).length:=List.count_le_length
    rw [labs_len] at this
    simpa using this
   ·exact h.sz k (by omega) (by omega)
  ·have:=h.un x hx ht
   rw [hl] at this
   exact this
 ·intro h
  refine ⟨hg,hlv,(h 0 (by omega)).1,fun x hx ht => ?_,fun k k1 k2=>(h k (by omega)).2.1⟩
  have hb:=hlv x hx
  obtain ⟨j,hj⟩:∃j:Nat,x.2.2.1=(j:Int):=⟨x.2.2.1.toNat,by omega⟩
  rw [hj]
  exact (h j (by omega)).2.2 x hx ht hj
end
theorem w_sWebOk (n:Int) (L:List Led) (hL:L.length<=1048576):∃b,g_sWebOk (n,L)=some (b,())/\(b=true↔0<=n/\WOk n.toNat L):=by
 have hm:maxLen=9223372036854775807:=by decide
 show ∃b,f_sWebOk BIG _=_/\_
 have hG:g_sGraphOf (n,L)=some ((n,gE L),()):=h_sGraphOf n L hL
 rw [e_sWebOk,hG,Option.bind_some,w_sGraphOk _ _ (by unfold gE;rw [List.length_map];exact hL),Option.bind_some]
 by_cases hg:grB n (gE L)=true
 case neg=>
  rw [show grB n (gE L)=false by simpa using hg]
  simp only [Bool.not_false,cond_true,Option.bind_some]
  refine ⟨false,rfl,⟨(fun h=>by cases h),fun ⟨h1,h2⟩ => ?_⟩⟩
  have:=h2.gr
  rw [Int.toNat_of_nonneg h1] at this
  exact absurd this hg
 obtain ⟨m,rfl⟩:∃m:Nat,n=(m:Int):=by
  have:1<=n:=by
   have h:=hg
   unfold grB at h
   rw [Bool.and_eq_true,inB_t] at h
   omega
  exact ⟨n.toNat,by omega⟩
 rw [hg,Int.toNat_natCast]
 obtain ⟨h1,h12⟩:=gr_n hg
 obtain ⟨hgE,hgn,hL6⟩:=gr_e hg
 simp only [Bool.not_true,cond_false]
 rw [hiLoop L (by omega) (fun x=>!inB x.2.2.1 0 4) false (fun self i y hy => ?_) (fun self=>by simp)]
 ·by_cases hA:L.any (fun x=>!inB x.2.2.1 0 4)=true
  ·rw [if_pos hA]
   refine ⟨false,rfl,⟨(fun h=>by cases h),fun ⟨_,h2⟩ => ?_⟩⟩
   obtain ⟨x,hx,hp⟩:=List.any_eq_true.1 hA
   rw [show inB x.2.2.1 0 4=true from inB_t.2 (h2.lv x hx)] at hp
   simp at hp
  ·rw [if_neg hA,Option.bind_some]
   have hlv:∀x,x∈L->0<=x.2.2.1/\x.2.2.1<=4:=by
    intro x hx
    have hp:¬(!inB x.2.2.1 0 4)=true:=fun h=>hA (List.any_eq_true.2 ⟨x,hx,h⟩)
    cases hb:inB x.2.2.1 0 4 with
    | true=>exact inB_t.1 hb
    | false=>rw [hb] at hp;simp at hp
   simp only
   refine loop_bind (x:=((m:Int),(0:Int))) (P:=fun o=>∃b,o=some (b,())/\(b=true↔0<=(m:Int)/\WOk m L)) (fun (s:Int × Int)=>∃k:Nat,s.2=(k:Int)/\k<=5/\s.1=((m / 2 ^ k:Nat):Int)/\∀j:Nat,j<k->LvOk m L j) (fun s=>5-s.2.toNat)
    (fun _ (b:Unit ⊕ Bool)=>(b = .inl ()/\∀k:Nat,k<5->LvOk m L k)\/(b = .inr false/\¬∀k:Nat,k<5->LvOk m L k)) (by simp [BIG]) ⟨0,rfl,by omega,by simp,fun j h=>by omega⟩ (fun self s hx hs => ?_) (fun b hb => ?_)
   ·obtain ⟨mo,kk⟩:=s
    obtain ⟨k,k1,k2,k3,k4⟩:=hx
    simp only at k1 k2 k3 k4 hs ⊢
    subst k1 k3
    by_cases hk:k<=4
    ·obtain ⟨hE,hEn,hEl⟩:=gr_at hg (k:Int)
     obtain ⟨r,b,r1,r2,r3⟩:=w_sForestAt (n:=m) L (k:Int) h1 h12 hL hE
     rw [decide_eq_true (by omega),cond_true,r1,Option.bind_some]
     cases b with
     | false=>
      simp only [Bool.not_false,cond_true,Option.bind_some]
      refine ⟨_,rfl,.inr ⟨rfl,fun h => ?_⟩⟩
      have:=r2.2 (h k (by omega)).1
      cases this
     | true=>
      obtain ⟨Fs,rfl,hF⟩:=r3 rfl
      have htl:=trs_len Fs
      have hsz:=hF.size
      have hnc:=r2.1 rfl
      simp only [Bool.not_true,cond_false]
      rw [hiLoop Fs (by omega) (fun p=>decide (1<(p.1::p.2.vs).length)&&decide (m / 2 ^ k<(p.1::p.2.vs).length)) false (fun self2 i y hy => ?_) (fun self2=>by simp [htl])]
      ·by_cases hT:Fs.any (fun p=>decide (1<(p.1::p.2.vs).length)&&decide (m / 2 ^ k<(p.1::p.2.vs).length))=true
       ·rw [if_pos hT]
        refine ⟨_,rfl,.inr ⟨rfl,fun h => ?_⟩⟩
        obtain ⟨p,hp,hq⟩:=List.any_eq_true.1 hT
        rw [Bool.and_eq_true,decide_eq_true_eq,decide_eq_true_eq] at hq
        have:=(sz_iff hg hF _).2 (h k (by omega)).2.1 p hp hq.1
        omega
       ·rw [if_neg hT,Option.bind_some]
        have hszk:=(sz_iff hg hF (m / 2 ^ k)).1 fun p hp hq=>by
         apply Classical.byContradiction
         intro hlt
         exact hT (List.any_eq_true.2 ⟨p,hp,by rw [Bool.and_eq_true,decide_eq_true_eq,decide_eq_true_eq];omega⟩)
        simp only
        rw [hiLoop L (by omega) (fun x=>!x.2.2.2&&(decide (x.2.2.1=(k:Int)) && !decide (lbl m L k x.1=lbl m L k x.2.1))) false (fun self3 i y hy => ?_) (fun self3=>by simp)]
        ·by_cases hU:L.any (fun x=>!x.2.2.2&&(decide (x.2.2.1=(k:Int)) && !decide (lbl m L k x.1=lbl m L k x.2.1)))=true
         ·rw [if_pos hU]
          refine ⟨_,rfl,.inr ⟨rfl,fun h => ?_⟩⟩
          obtain ⟨x,hx,hq⟩:=List.any_eq_true.1 hU
          simp only [Bool.and_eq_true,Bool.not_eq_true',decide_eq_true_eq,decide_eq_false_iff_not] at hq
          exact hq.2.2 ((h k (by omega)).2.2 x hx hq.1 hq.2.1)
         ·rw [if_neg hU,Option.bind_some]
          simp only
          rw [decide_eq_false (by omega),cond_false,Option.bind_some]
          have hdiv:IntKind.wrap .i64 (Int.tdiv ((m / 2 ^ k:Nat):Int) 2)=((m / 2 ^ (k+1):Nat):Int):=by
           have h0:m / 2 ^ k<=m:=Nat.div_le_self ..
           have h2:Int.tdiv ((m / 2 ^ k:Nat):Int) 2=((m / 2 ^ (k+1):Nat):Int):=by
            rw [Nat.pow_succ,<-Nat.div_div_eq_div_mul]
            rfl
           have h3:m / 2 ^ (k+1)<=m:=Nat.div_le_self ..
           have h4:(0:Int)<=((m / 2 ^ (k+1):Nat):Int):=Int.natCast_nonneg _
           rw [h2,wr (by omega) (by omega)]
          simp only
          rw [hdiv,wr1 (by omega)]
          refine hs _ ⟨k+1,rfl,by omega,rfl,fun j hj => ?_⟩ (by simp;omega)
          by_cases hjk:j=k
          ·subst hjk
           refine ⟨hnc,hszk,fun x hx ht hl => ?_⟩
           apply Classical.byContradiction
           intro hne
           refine hU (List.any_eq_true.2 ⟨x,hx,?_⟩)
           rw [ht,decide_eq_true hl,decide_eq_false hne]
           rfl
          ·exact k4 j (by omega)
        ·have hi:=(List.getElem?_eq_some_iff.1 hy).1
         have hye:=edB_in (hgE (y.1,y.2.1) (List.mem_map.2 ⟨y,List.mem_of_getElem? hy,rfl⟩))
         simp only at hye
         obtain ⟨ja,pa,a1,a2,a3⟩:=w_sTreeOf hE hF h12 h1 y.1 hye.1 hye.2.1
         obtain ⟨jb,pb,b1,b2,b3⟩:=w_sTreeOf hE hF h12 h1 y.2.1 hye.2.2.1 hye.2.2.2.1
         have hiff:((ja:Int)=(jb:Int))↔lbl m L k y.1=lbl m L k y.2.1:=by
          rw [lbl_iff hg (k:Int) ⟨hye.1,hye.2.1⟩ ⟨hye.2.2.1,hye.2.2.2.1⟩]
          constructor
          ·intro h
           have:ja=jb:=by omega
           subst this
           rw [a1,Option.some.injEq] at b1
           subst b1
           have hG:=hF.gt pa (List.mem_of_getElem? a1)
           exact ((hG.con hE _).1 a2).symm.trans ((hG.con hE _).1 b2)
          ·intro h
           have:=hF.idx hE a1 b1 a2 b2 h
           omega
         simp only [show ((i:Int)<(L.length:Int)) from by omega,decide_true,cond_true]
         rw [bnd_nat hi,hy,Option.bind_some,wr1 (by omega)]
         cases ht:y.2.2.2 with
         | true=>rfl
         | false=>
          simp only [Bool.not_false,cond_true,Bool.true_and]
          by_cases hl:y.2.2.1=(k:Int)
          ·rw [decide_eq_true hl,cond_true,a3,Option.bind_some,b3,Option.bind_some,Option.bind_some]
           by_cases hq:lbl m L k y.1=lbl m L k y.2.1
           ·rw [decide_eq_true hq,decide_eq_true (hiff.2 hq)];rfl
           ·rw [decide_eq_false hq,decide_eq_false (fun h=>hq (hiff.1 h))];rfl
          ·rw [decide_eq_false hl,cond_false];rfl
      ·have hi:=(List.getElem?_eq_some_iff.1 hy).1
       obtain ⟨V,v1,_,_,v4,_,v6⟩:=hF.verts h12 (List.mem_of_getElem? hy)
       rw [decide_eq_true (by omega),cond_true,bnd_nat (by omega),trs_get hy,Option.bind_some,v1,Option.bind_some,wr1 (by omega)]
       simp only
       rw [<-v4]
       by_cases c1:1<V.length
       ·rw [decide_eq_true (show ((1:Int)<(V.length:Int)) by omega),decide_eq_true c1,cond_true,Option.bind_some,Bool.true_and]
        by_cases c2:m / 2 ^ k<V.length
        ·rw [decide_eq_true (by omega),decide_eq_true c2];rfl
        ·rw [decide_eq_false (by omega),decide_eq_false c2];rfl
       ·rw [decide_eq_false (show ¬((1:Int)<(V.length:Int)) by omega),decide_eq_false c1];rfl
    ·rw [decide_eq_false (by omega),cond_false]
     exact ⟨_,rfl,.inl ⟨rfl,fun j hj=>k4 j (by omega)⟩⟩
   ·rcases hb with ⟨rfl,h⟩|⟨rfl,h⟩
    ·exact ⟨true,rfl,⟨fun _=>⟨by omega,(wok_iff hg hlv).2 h⟩,fun _=>rfl⟩⟩
    ·exact ⟨false,rfl,⟨(fun h=>by cases h),fun ⟨_,h2⟩=>absurd ((wok_iff hg hlv).1 h2) h⟩⟩
 ·have hi:=(List.getElem?_eq_some_iff.1 hy).1
  simp only [show ((i:Int)<(L.length:Int)) from by omega,decide_true,cond_true]
  rw [bnd_nat hi,hy,Option.bind_some,h_sl01In',Option.bind_some,wr1 (by omega)]
  cases inB y.2.2.1 0 4<;>rfl
end Go.Fw
