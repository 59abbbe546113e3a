/- What the given functions come to. No conditions. -/
import Derived.Test.YtlolhpdimikcdaaGreatX3
import Derived.IntWalk
set_option linter.unusedVariables false
set_option linter.unusedSimpArgs false
set_option linter.unusedSectionVars false
namespace Go.Fw
theorem loop_rel {X B:Type} {F:(X->Option B)->X->Option B} (I:X->Prop) (μ:X->Nat) (Q:X->B->Prop)
  (h:∀self x,I x->(∀y,I y->μ y<μ x->∃b,self y=some b/\Q y b)->∃b,F self x=some b/\Q x b):∀{n:Nat} {x:X},μ x<n->I x->∃b,loopT n F x=some b/\Q x b
 | 0,_,hn,_=>absurd hn (Nat.not_lt_zero _)
 | n+1,x,hn,hi=>h (it F n) x hi fun _ hy hm=>loop_rel I μ Q h (n:=n) (by omega) hy
theorem loop_eq {X B:Type} {F:(X->Option B)->X->Option B} (I:X->Prop) (μ:X->Nat) (R:X->B)
  (h:∀self x,I x->(∀y,I y->μ y<μ x->self y=some (R y))->F self x=some (R x)) {n:Nat} {x:X} (hn:μ x<n) (hi:I x):loopT n F x=some (R x):=by
 obtain ⟨b,h1,h2⟩:=loop_rel (F:=F) I μ (fun x b=>b=R x) (fun self x hx hs=>⟨_,h self x hx fun y hy hm=>by obtain ⟨b,h1,h2⟩:=hs y hy hm;rw [h1,h2],rfl⟩) hn hi;rw [h1,h2]
theorem wr {n:Int} (h : -9223372036854775808<=n) (h':n<=9223372036854775807):IntKind.wrap .i64 n=n:=by
 rw [IntKind.wrap_i64];omega
theorem wr1 {i:Nat} (h:i<maxLen):IntKind.wrap .i64 ((i:Int)+1)=((i+1:Nat):Int):=by
 have:maxLen=9223372036854775807:=by decide
 rw [wr (by omega) (by omega)];rfl
theorem wf64 {n:Int} (h:(Lit.int .i64 n).wf=true) : -9223372036854775808<=n/\n<=9223372036854775807:=by
 simpa [Lit.wf,IntKind.min,IntKind.max,IntKind.signed,IntKind.bits] using h
theorem bnd_ok {B:Type} {len:Nat} {i:Int} {k:Nat->Option B} (h:0<=i) (h':i<len):bnd len i k=k i.toNat:=by
 unfold bnd;rw [if_pos ⟨h,by omega⟩]
theorem bnd_nat {B:Type} {len:Nat} {i:Nat} {k:Nat->Option B} (h':i<len):bnd len (i:Int) k=k i:=by
 rw [bnd_ok (Int.natCast_nonneg i) (by omega)];simp
theorem cpLoop {α:Type} (a:List α) (hl:a.length<18446744073709551616) {z:α} {F:(List α × Int->Option (List α))->List α × Int->Option (List α)}
  (hF:∀self out (i:Nat) y,out.length=a.length->a[i]?=some y->F self (out,(i:Int))=self (out.set i y,((i+1:Nat):Int)))
  (hE:∀self out,out.length=a.length->F self (out,(a.length:Int))=some out):loopT BIG F (List.replicate a.length z,0)=some a:=by
 have:=loop_eq (F:=F) (fun x=>∃i:Nat,x.2=i/\i<=a.length/\x.1.length=a.length/\x.1.take i=a.take i) (fun x=>a.length-x.2.toNat) (fun _=>a) (fun self x ⟨i,h1,h2,h3,h4⟩ hs => ?_) (n:=BIG) (x:=(List.replicate a.length z,0)) (by simp;exact hl) ⟨0,rfl,by simp,by simp,by simp⟩
 ·exact this
 ·obtain ⟨out,j⟩:=x;simp only at h1 h2 h3 h4;subst h1;by_cases hi:i<a.length
  ·rw [hF self out i a[i] h3 (List.getElem?_eq_getElem hi)];refine hs _ ⟨i+1,rfl,hi,by simpa using h3,?_⟩ (by simp;omega);rw [List.take_set,List.take_succ_eq_append_getElem (by omega:i<out.length),List.take_succ_eq_append_getElem hi,h4,List.set_append_right _ _ (by simp;omega)];simp [Nat.min_eq_left h2]
  ·have:i=a.length:=by omega
   subst this;rw [hE self out h3];rw [List.take_of_length_le (by omega),List.take_of_length_le (by omega)] at h4;rw [h4]
theorem allLoop {α B:Type} (a:List α) (hl:a.length<18446744073709551616) {F:(Int->Option (Unit ⊕ B))->Int->Option (Unit ⊕ B)} (p:Nat->Bool) (b:B)
  (hF:∀self (i:Nat) y,a[i]?=some y->F self (i:Int)=if p i then self ((i+1:Nat):Int) else some (.inr b))
  (hE:∀self,F self (a.length:Int)=some (.inl ())):loopT BIG F 0=some (if ∀i,i<a.length->p i=true then .inl () else .inr b):=by
 have hh:=loop_rel (F:=F) (fun x=>∃i:Nat,x=i/\i<=a.length) (fun x=>a.length-x.toNat) (fun x r=>((∀i:Nat,x<=(i:Int)->i<a.length->p i=true)/\r = .inl ())\/((∃i:Nat,i<a.length/\p i=false)/\r = .inr b)) (fun self x ⟨i,h1,h2⟩ hs => ?_) (n:=BIG) (x:=0) (by simp;exact hl) ⟨0,rfl,by simp⟩
 ·obtain ⟨r,hr,hq⟩:=hh;rw [hr];congr 1;rcases hq with ⟨h1,rfl⟩|⟨⟨i,h1,h2⟩,rfl⟩
  ·rw [if_pos fun i hi=>h1 i (by omega) hi]
  ·rw [if_neg];intro h;rw [h i h1] at h2;cases h2
 ·subst h1;by_cases hi:i<a.length
  ·rw [hF self i a[i] (List.getElem?_eq_getElem hi)];cases hp:p i with
   | true=>
    rw [if_pos rfl];obtain ⟨r,hr,hq⟩:=hs _ ⟨i+1,rfl,hi⟩ (by simp;omega);refine ⟨r,hr,?_⟩;rcases hq with ⟨h1,rfl⟩|h1
    ·refine .inl ⟨fun k hk hk' => ?_,rfl⟩;by_cases h:k=i
     ·subst h;exact hp
     ·exact h1 k (by omega) hk'
    ·exact .inr h1
   | false=>exact ⟨_,rfl,.inr ⟨⟨i,hi,hp⟩,rfl⟩⟩
  ·have:i=a.length:=by omega
   subst this;exact ⟨_,hE self,.inl ⟨fun k hk hk'=>by omega,rfl⟩⟩
theorem maxLen_lt:maxLen<18446744073709551616:=by decide
theorem eqLoop {α B:Type} [DecidableEq α] (a b:List α) (hl:a.length<=maxLen) (hab:a.length=b.length) {F:(Int->Option (Unit ⊕ B))->Int->Option (Unit ⊕ B)} (r:B)
  (hF:∀self (i:Nat) x y,a[i]?=some x->b[i]?=some y->F self (i:Int)=if x=y then self ((i+1:Nat):Int) else some (.inr r))
  (hE:∀self,F self (a.length:Int)=some (.inl ())):loopT BIG F 0=some (if a=b then .inl () else .inr r):=by
 rw [allLoop a (Nat.lt_of_le_of_lt hl maxLen_lt) (fun i=>decide (a[i]?=b[i]?)) r (fun self i y hy => ?_) hE]
 ·congr 1;by_cases h:a=b
  ·subst h;simp
  ·rw [if_neg h,if_neg];intro h';apply h;apply List.ext_getElem? fun i => ?_
   by_cases hi:i<a.length
   ·simpa using h' i hi
   ·rw [List.getElem?_eq_none (by omega),List.getElem?_eq_none (by omega)]
 ·have hi:=(List.getElem?_eq_some_iff.1 hy).1;have hb:b[i]?=some (b[i]'(by omega)):=List.getElem?_eq_getElem (by omega);rw [hF self i y _ hy hb,hy,hb];simp
theorem foldLoop {α S B:Type} (a:List α) (hl:a.length<18446744073709551616) {F:(S × Int->Option B)->S × Int->Option B} (I:Nat->S->Prop) (st:S->α->S) (R:S->B) {s0:S} (h0:I 0 s0)
  (hI:∀i s y,a[i]?=some y->I i s->I (i+1) (st s y)) (hF:∀self s (i:Nat) y,a[i]?=some y->I i s->F self (s,(i:Int))=self (st s y,((i+1:Nat):Int)))
  (hE:∀self s,I a.length s->F self (s,(a.length:Int))=some (R s)):loopT BIG F (s0,0)=some (R (a.foldl st s0)):=by
 have:=loop_eq (F:=F) (fun x=>∃i:Nat,x.2=i/\i<=a.length/\I i x.1) (fun x=>a.length-x.2.toNat) (fun x=>R ((a.drop x.2.toNat).foldl st x.1)) (fun self x ⟨i,h1,h2,h3⟩ hs => ?_) (n:=BIG) (x:=(s0,0)) (by simp;exact hl) ⟨0,rfl,by simp,h0⟩
 ·simpa using this
 ·obtain ⟨s,j⟩:=x;simp only at h1 h2 h3;subst h1;by_cases hi:i<a.length
  ·have hy:=List.getElem?_eq_getElem hi;rw [hF self s i a[i] hy h3,hs _ ⟨i+1,rfl,hi,hI _ _ _ hy h3⟩ (by simp;omega)];simp only [Int.toNat_natCast];rw [List.drop_eq_getElem_cons hi,List.foldl_cons]
  ·have:i=a.length:=by omega
   subst this;rw [hE self s h3];simp
theorem set_take_drop {α:Type} {a t:List α} {i:Nat} {z:α} (ht:t.length=a.length) (hi:i<a.length) (hz:t[i]?=some z):(t.take i++a.drop i).set i z=t.take (i+1)++a.drop (i+1):=by
 have hi':i<t.length:=by omega
 rw [List.getElem?_eq_getElem hi',Option.some.injEq] at hz;subst hz;rw [List.set_append_right _ _ (by simp;omega),List.drop_eq_getElem_cons hi,show i-(t.take i).length=0 from by simp;omega,List.set_cons_zero,List.take_succ_eq_append_getElem hi',List.append_assoc];rfl
theorem szLoop {α B:Type} (a:List α) (z:α->Nat) (b:B) (l0:Int) (h0:0<=l0) (h0':l0<=1048576) (hl:a.length<18446744073709551616) {F:(Int × Int->Option (Int ⊕ B))->Int × Int->Option (Int ⊕ B)}
  (hF:∀self (i:Nat) (l:Int) y,a[i]?=some y->0<=l->l<=1048576->F self (l,(i:Int))=if (z y:Int)<=l then self (l-z y,((i+1:Nat):Int)) else some (.inr b))
  (hE:∀self l,F self (l,(a.length:Int))=some (.inl l)) :
  loopT BIG F (l0,0)=some (if ((a.map z).sum:Int)<=l0 then .inl (l0-((a.map z).sum:Nat)) else .inr b):=by
 have:=loop_eq (F:=F) (fun x=>∃i:Nat,x.2=i/\i<=a.length/\0<=x.1/\x.1<=1048576) (fun x=>a.length-x.2.toNat) (fun x=>if (((a.drop x.2.toNat).map z).sum:Int)<=x.1 then .inl (x.1-(((a.drop x.2.toNat).map z).sum:Nat)) else .inr b)
  (fun self x ⟨i,h1,h2,h3,h4⟩ hs => ?_) (n:=BIG) (x:=(l0,0)) (by simp;exact hl) ⟨0,rfl,by simp,h0,h0'⟩
 ·simpa using this
 ·obtain ⟨l,j⟩:=x;simp only at h1 h3 h4;subst h1;simp only [Int.toNat_natCast];by_cases hi:i<a.length
  ·have hy:=List.getElem?_eq_getElem hi;rw [hF self i l _ hy h3 h4,List.drop_eq_getElem_cons hi,List.map_cons,List.sum_cons];by_cases hz:(z a[i]:Int)<=l
   ·rw [if_pos hz,hs _ ⟨i+1,rfl,hi,by simp only;omega,by simp only;omega⟩ (by simp only [Int.toNat_natCast];omega)];simp only [Int.toNat_natCast];by_cases hq:(((a.drop (i+1)).map z).sum:Int)<=l-z a[i]
    ·rw [if_pos hq,if_pos (by omega)];congr 2;omega
    ·rw [if_neg hq,if_neg (by omega)]
   ·rw [if_neg hz,if_neg (by omega)]
  ·have:i=a.length:=by omega
   subst this;rw [hE self l,List.drop_length];simp [h3]
inductive Con (E:List (Int × Int)):Int->Int->Prop
 | refl (v:Int):Con E v v
 | fwd {u v w:Int}:Con E u v->(v,w)∈E->Con E u w
 | bwd {u v w:Int}:Con E u v->(w,v)∈E->Con E u w
theorem Con.trans {E:List (Int × Int)} {u v w:Int} (h:Con E u v) (h':Con E v w):Con E u w:=by
 induction h' with
 | refl=>exact h
 | fwd _ he ih=>exact .fwd ih he
 | bwd _ he ih=>exact .bwd ih he
theorem Con.symm {E:List (Int × Int)} {u v:Int} (h:Con E u v):Con E v u:=by
 induction h with
 | refl=>exact .refl _
 | fwd _ he ih=>exact Con.trans (.bwd (.refl _) he) ih
 | bwd _ he ih=>exact Con.trans (.fwd (.refl _) he) ih
theorem Con.mono {E E':List (Int × Int)} (hE:∀e,e∈E->e∈E') {u v:Int} (h:Con E u v):Con E' u v:=by
 induction h with
 | refl=>exact .refl _
 | fwd _ he ih=>exact .fwd ih (hE _ he)
 | bwd _ he ih=>exact .bwd ih (hE _ he)
theorem Con.of {E:List (Int × Int)} {u v:Int} (h:(u,v)∈E):Con E u v:=.fwd (.refl _) h
theorem Con.nil {u v:Int} (h:Con [] u v):u=v:=by
 induction h with
 | refl=>rfl
 | fwd _ he _=>cases he
 | bwd _ he _=>cases he
theorem Con.snoc {E:List (Int × Int)} {a b u v:Int}:Con (E++[(a,b)]) u v↔Con E u v\/(Con E u a/\Con E b v)\/(Con E u b/\Con E a v):=by
 constructor
 ·intro h;induction h with
  | refl=>exact .inl (.refl _)
  | fwd _ he ih=>
   rcases List.mem_append.1 he with h1|h1
   ·rcases ih with h|⟨h,h'⟩|⟨h,h'⟩
    ·exact .inl (.fwd h h1)
    ·exact .inr (.inl ⟨h,.fwd h' h1⟩)
    ·exact .inr (.inr ⟨h,.fwd h' h1⟩)
   ·cases List.mem_singleton.1 h1;rcases ih with h|⟨h,h'⟩|⟨h,h'⟩
    ·exact .inr (.inl ⟨h,.refl _⟩)
    ·exact .inr (.inl ⟨h,.refl _⟩)
    ·exact .inl h
  | bwd _ he ih=>
   rcases List.mem_append.1 he with h1|h1
   ·rcases ih with h|⟨h,h'⟩|⟨h,h'⟩
    ·exact .inl (.bwd h h1)
    ·exact .inr (.inl ⟨h,.bwd h' h1⟩)
    ·exact .inr (.inr ⟨h,.bwd h' h1⟩)
   ·cases List.mem_singleton.1 h1;rcases ih with h|⟨h,h'⟩|⟨h,h'⟩
    ·exact .inr (.inr ⟨h,.refl _⟩)
    ·exact .inl h
    ·exact .inr (.inr ⟨h,.refl _⟩)
 ·have hm:∀{x y:Int},Con E x y->Con (E++[(a,b)]) x y:=fun h=>h.mono fun e he=>List.mem_append_left _ he
  have hab:Con (E++[(a,b)]) a b:=.of (List.mem_append_right _ (List.mem_singleton.2 rfl));rintro (h|⟨h,h'⟩|⟨h,h'⟩)
  ·exact hm h
  ·exact (hm h).trans (hab.trans (hm h'))
  ·exact (hm h).trans (hab.symm.trans (hm h'))
def EIn (n:Nat) (E:List (Int × Int)):Prop:=∀e,e∈E->0<=e.1/\e.1<n/\0<=e.2/\e.2<n
def Lab (n:Nat) (E:List (Int × Int)) (l:List Int):Prop:=
 l.length=n/\∀(v:Nat) (x:Int),l[v]?=some x->Con E v x/\0<=x/\∀u:Int,0<=u->Con E v u->x<=u
theorem Lab.le {n:Nat} {E:List (Int × Int)} {l:List Int} (h:Lab n E l) {v:Nat} {x:Int} (hx:l[v]?=some x):x<=v:=
 (h.2 v x hx).2.2 v (Int.natCast_nonneg v) (.refl _)
theorem Lab.lt {n:Nat} {E:List (Int × Int)} {l:List Int} (h:Lab n E l) {v:Nat} {x:Int} (hx:l[v]?=some x):0<=x/\x<n:=by
 have h1:=h.le hx;have h2:=(List.getElem?_eq_some_iff.1 hx).1;have h3:=(h.2 v x hx).2.1;have h4:=h.1;omega
theorem Lab.iff {n:Nat} {E:List (Int × Int)} {l:List Int} (h:Lab n E l) {u v:Nat} {x y:Int} (hx:l[u]?=some x) (hy:l[v]?=some y):x=y↔Con E u v:=by
 have h1:=h.2 u x hx;have h2:=h.2 v y hy;constructor
 ·intro e;subst e;exact h1.1.trans h2.1.symm
 ·intro c;have a:=h1.2.2 y h2.2.1 (c.trans h2.1);have b:=h2.2.2 x h1.2.1 (c.symm.trans h1.1);omega
theorem Lab.self {n:Nat} {E:List (Int × Int)} {l:List Int} (h:Lab n E l) {v:Nat} {x:Int} (hx:l[v]?=some x):l[x.toNat]?=some x:=by
 have h1:=h.lt hx;have hi:x.toNat<l.length:=by rw [h.1];omega
 rw [List.getElem?_eq_getElem hi];have h2:=h.2 v x hx;have hc:Con E (x.toNat:Int) v:=by rw [Int.toNat_of_nonneg h1.1];exact h2.1.symm
 rw [(h.iff (List.getElem?_eq_getElem hi) hx).2 hc]
def lab0 (n:Nat):List Int:=(List.range n).map fun (i:Nat)=>(i:Int)
theorem lab0_get {n v:Nat} {x:Int} (h:(lab0 n)[v]?=some x):v<n/\x=v:=by
 have hi:=(List.getElem?_eq_some_iff.1 h).1;simp only [lab0,List.length_map,List.length_range] at hi;simp only [lab0,List.getElem?_map,List.getElem?_range hi,Option.map_some,Option.some.injEq] at h;exact ⟨hi,h.symm⟩
theorem lab0_len (n:Nat):(lab0 n).length=n:=by simp [lab0]
theorem Lab.zero (n:Nat):Lab n [] (lab0 n):=by
 refine ⟨lab0_len n,fun v x h => ?_⟩;obtain ⟨_,rfl⟩:=lab0_get h;exact ⟨.refl _,Int.natCast_nonneg v,fun u _ h=>by rw [h.nil];exact Int.le_refl _⟩
def unL (l:List Int) (x y:Int):List Int:=l.map fun z=>if z=(if y > x then y else x) then (if y<x then y else x) else z
theorem unL_len (l:List Int) (x y:Int):(unL l x y).length=l.length:=by simp [unL]
theorem unL_same (l:List Int) (x:Int):unL l x x=l:=by
 unfold unL;conv=>rhs;rw [<-List.map_id l]
 apply List.map_congr_left;intro z _;simp only [gt_iff_lt,Int.lt_irrefl,if_false,id];split<;>simp_all
theorem Lab.union {n:Nat} {E:List (Int × Int)} {l:List Int} (h:Lab n E l) {a b:Nat} {x y:Int} (hx:l[a]?=some x) (hy:l[b]?=some y):Lab n (E++[((a:Int),(b:Int))]) (unL l x y):=by
 refine ⟨by rw [unL_len,h.1],fun v z hz => ?_⟩;simp only [unL,List.getElem?_map,Option.map_eq_some_iff] at hz;obtain ⟨w,hw,hz⟩:=hz;have hax:=h.2 a x hx;have hby:=h.2 b y hy;have hvw:=h.2 v w hw;have ew:∀{c:Nat} {t:Int},l[c]?=some t->(w=t↔Con E v c):=fun hc=>h.iff hw hc
 have hA:=ew hx;have hB:=ew hy;have hab:Con (E++[((a:Int),(b:Int))]) a b:=.of (List.mem_append_right _ (List.mem_singleton.2 rfl));have hm:∀{s t:Int},Con E s t->Con (E++[((a:Int),(b:Int))]) s t:=fun h=>h.mono fun e he=>List.mem_append_left _ he
 by_cases hxy:x=y
 ·subst hxy;have hcab:Con E a b:=(h.iff hx hy).1 rfl;have:z=w:=by
   subst hz;simp only [gt_iff_lt,Int.lt_irrefl,if_false];split<;>simp_all
  subst this;refine ⟨hm hvw.1,hvw.2.1,fun u hu hc => ?_⟩;apply hvw.2.2 u hu;rcases Con.snoc.1 hc with h1|⟨h1,h2⟩|⟨h1,h2⟩
  ·exact h1
  ·exact h1.trans (hcab.trans h2)
  ·exact h1.trans (hcab.symm.trans h2)
 ·have key:∀u:Int,0<=u->Con (E++[((a:Int),(b:Int))]) v u->(w<=u)\/(w=x/\y<=u)\/(w=y/\x<=u):=by
   intro u hu hc;rcases Con.snoc.1 hc with h1|⟨h1,h2⟩|⟨h1,h2⟩
   ·exact .inl (hvw.2.2 u hu h1)
   ·exact .inr (.inl ⟨hA.2 h1,hby.2.2 u hu h2⟩)
   ·exact .inr (.inr ⟨hB.2 h1,hax.2.2 u hu h2⟩)
  by_cases hwx:w=x
  ·have hva:=hA.1 hwx;subst hwx;by_cases hlt:y > w
   ·rw [if_pos hlt,if_neg (by omega)] at hz;subst hz;refine ⟨hm hvw.1,hvw.2.1,fun u hu hc => ?_⟩;rcases key u hu hc with h1|h1|h1<;>omega
   ·rw [if_neg hlt,if_pos rfl,if_pos (by omega)] at hz;subst hz;refine ⟨(hm hva).trans (hab.trans (hm hby.1)),hby.2.1,fun u hu hc => ?_⟩;rcases key u hu hc with h1|h1|h1<;>omega
  ·by_cases hwy:w=y
   ·have hvb:=hB.1 hwy;subst hwy;by_cases hlt:w > x
    ·rw [if_pos hlt,if_pos rfl,if_neg (by omega)] at hz;subst hz;refine ⟨(hm hvb).trans (hab.symm.trans (hm hax.1)),hax.2.1,fun u hu hc => ?_⟩;rcases key u hu hc with h1|h1|h1<;>omega
    ·rw [if_neg hlt,if_neg hwx] at hz;subst hz;refine ⟨hm hvw.1,hvw.2.1,fun u hu hc => ?_⟩;rcases key u hu hc with h1|h1|h1<;>omega
   ·rw [if_neg (by split<;>omega)] at hz;subst hz;refine ⟨hm hvw.1,hvw.2.1,fun u hu hc => ?_⟩;rcases key u hu hc with h1|h1|h1<;>omega
def unE (l:List Int) (e:Int × Int):List Int:=unL l (l.getD e.1.toNat 0) (l.getD e.2.toNat 0)
theorem unE_len (l:List Int) (e:Int × Int):(unE l e).length=l.length:=unL_len _ _ _
theorem Lab.unE {n:Nat} {E:List (Int × Int)} {l:List Int} (h:Lab n E l) {e:Int × Int} (he:0<=e.1/\e.1<n/\0<=e.2/\e.2<n):Lab n (E++[e]) (unE l e):=by
 have h1:e.1.toNat<l.length:=by rw [h.1];omega
 have h2:e.2.toNat<l.length:=by rw [h.1];omega
 have:=h.union (a:=e.1.toNat) (b:=e.2.toNat) (List.getElem?_eq_getElem h1) (List.getElem?_eq_getElem h2);rw [Int.toNat_of_nonneg he.1,Int.toNat_of_nonneg he.2.2.1] at this;unfold Go.Fw.unE;rw [List.getD_eq_getElem?_getD,List.getD_eq_getElem?_getD,List.getElem?_eq_getElem h1,List.getElem?_eq_getElem h2];exact this
theorem Lab.fold {n:Nat}:∀{D E:List (Int × Int)} {l:List Int},Lab n E l->EIn n D->Lab n (E++D) (D.foldl Go.Fw.unE l)
 | [],E,l,h,_=>by simpa using h
 | e::D,E,l,h,hD=>by
  have:=Lab.fold (D:=D) (h.unE (hD e (List.mem_cons_self ..))) fun x hx=>hD x (List.mem_cons_of_mem _ hx)
  rw [List.foldl_cons];rwa [List.append_assoc] at this
def labs (n:Nat) (E:List (Int × Int)):List Int:=E.foldl unE (lab0 n)
theorem labs_ok {n:Nat} {E:List (Int × Int)} (h:EIn n E):Lab n E (labs n E):=by
 have:=(Lab.zero n).fold h;simpa [labs] using this
theorem labs_len (n:Nat) (E:List (Int × Int)):(labs n E).length=n:=by
 have:∀(E:List (Int × Int)) (l:List Int),(E.foldl unE l).length=l.length:=by
  intro E;induction E with
  | nil=>simp
  | cons e E ih=>intro l;rw [List.foldl_cons,ih,unE_len]
 rw [labs,this,lab0_len]
def rlE (l:List Int) (e:Int × Int):List Int:=
 let x:=l.getD e.1.toNat 0
 let y:=l.getD e.2.toNat 0
 let l:=if x<y then l.set e.2.toNat x else l
 if y<x then l.set e.1.toNat y else l
theorem rlE_len (l:List Int) (e:Int × Int):(rlE l e).length=l.length:=by
 unfold rlE;simp only;split<;>split<;>simp
def lrnd (E:List (Int × Int)) (l:List Int):List Int:=E.foldl rlE l
theorem lrnd_len:∀(E:List (Int × Int)) (l:List Int),(lrnd E l).length=l.length
 | [],l=>rfl
 | e::E,l=>by show (lrnd E (rlE l e)).length=_;rw [lrnd_len E,rlE_len]
section
variable {n:Nat} {E:List (Int × Int)} {L:List Int}
def Dn (n:Nat) (E:List (Int × Int)) (l:List Int):Prop:=l.length=n/\∀(v:Nat) (x:Int),l[v]?=some x->Con E v x/\0<=x
theorem Dn.ge (hL:Lab n E L) {l:List Int} (h:Dn n E l) {v:Nat} {x y:Int} (hx:l[v]?=some x) (hy:L[v]?=some y):y<=x:=
 (hL.2 v y hy).2.2 x (h.2 v x hx).2 (h.2 v x hx).1
theorem Dn.set {l:List Int} (h:Dn n E l) {v:Nat} {x:Int} (hc:Con E v x) (h0:0<=x):Dn n E (l.set v x):=by
 refine ⟨by simp [h.1],fun u y hu => ?_⟩;rw [List.getElem?_set] at hu;split at hu
 ·subst v;split at hu
  ·cases hu;exact ⟨hc,h0⟩
  ·cases hu
 ·exact h.2 u y hu
theorem getD_at {l:List Int} {i:Nat} (h:i<l.length):l[i]?=some (l.getD i 0):=by
 rw [List.getD_eq_getElem?_getD,List.getElem?_eq_getElem h];rfl
theorem Dn.rlE (hL:Lab n E L) {l:List Int} (h:Dn n E l) {e:Int × Int} (hm:e∈E) (he:0<=e.1/\e.1<n/\0<=e.2/\e.2<n) :
  Dn n E (rlE l e)/\(∀(v:Nat),(rlE l e).getD v 0<=l.getD v 0) /\
  (l.getD e.1.toNat 0=L.getD e.1.toNat 0->(rlE l e).getD e.2.toNat 0=L.getD e.2.toNat 0) /\
  (l.getD e.2.toNat 0=L.getD e.2.toNat 0->(rlE l e).getD e.1.toNat 0=L.getD e.1.toNat 0):=by
 obtain ⟨h1,h2,h3,h4⟩:=he;have i1:e.1.toNat<l.length:=by rw [h.1];omega
 have i2:e.2.toNat<l.length:=by rw [h.1];omega
 have j1:e.1.toNat<L.length:=by rw [hL.1];omega
 have j2:e.2.toNat<L.length:=by rw [hL.1];omega
 have c12:Con E (e.1.toNat:Int) (e.2.toNat:Int):=by
  rw [Int.toNat_of_nonneg h1,Int.toNat_of_nonneg h3];exact .of hm
 have hLe:=(hL.iff (getD_at j1) (getD_at j2)).2 c12;have a1:=h.2 _ _ (getD_at i1);have a2:=h.2 _ _ (getD_at i2);have g1:=h.ge hL (getD_at i1) (getD_at j1);have g2:=h.ge hL (getD_at i2) (getD_at j2);have gs:∀(i:Nat) (z:Int) (v:Nat),i<l.length->(l.set i z).getD v 0=if i=v then z else l.getD v 0:=by
  intro i z v hi;rw [List.getD_eq_getElem?_getD,List.getElem?_set];split
  ·subst v;simp
  ·rw [List.getD_eq_getElem?_getD]
 unfold Go.Fw.rlE;simp only;by_cases hlt:l.getD e.1.toNat 0<l.getD e.2.toNat 0
 ·rw [if_pos hlt,if_neg (by omega)];refine ⟨h.set (c12.symm.trans a1.1) a1.2,fun v => ?_,fun hd => ?_,fun hd => ?_⟩
  ·rw [gs _ _ _ i2];split
   ·subst v;omega
   ·exact Int.le_refl _
  ·rw [gs _ _ _ i2,if_pos rfl];omega
  ·omega
 ·rw [if_neg hlt];by_cases hgt:l.getD e.2.toNat 0<l.getD e.1.toNat 0
  ·rw [if_pos hgt];refine ⟨h.set (c12.trans a2.1) a2.2,fun v => ?_,fun hd => ?_,fun hd => ?_⟩
   ·rw [gs _ _ _ i1];split
    ·subst v;omega
    ·exact Int.le_refl _
   ·omega
   ·rw [gs _ _ _ i1,if_pos rfl];omega
  ·rw [if_neg hgt];refine ⟨h,fun v=>Int.le_refl _,fun hd => ?_,fun hd => ?_⟩<;>omega
theorem Dn.rnd (hL:Lab n E L) (hE:EIn n E):∀(D:List (Int × Int)) (l:List Int),(∀e,e∈D->e∈E)->Dn n E l ->
  Dn n E (lrnd D l)/\(∀v:Nat,(lrnd D l).getD v 0<=l.getD v 0) /\
  ∀e,e∈D->(l.getD e.1.toNat 0=L.getD e.1.toNat 0->(lrnd D l).getD e.2.toNat 0=L.getD e.2.toNat 0)/\(l.getD e.2.toNat 0=L.getD e.2.toNat 0->(lrnd D l).getD e.1.toNat 0=L.getD e.1.toNat 0)
 | [],l,_,h=>⟨h,fun v=>Int.le_refl _,fun e he=>by cases he⟩
 | e::D,l,hs,h=>by
  have hm:=hs e (List.mem_cons_self ..)
  obtain ⟨h1,h2,h3,h4⟩:=h.rlE hL hm (hE e hm)
  obtain ⟨k1,k2,k3⟩:=Dn.rnd hL hE D (Go.Fw.rlE l e) (fun x hx=>hs x (List.mem_cons_of_mem _ hx)) h1
  -- what is done stays done
  have dn:∀{l':List Int} (v:Nat),v<n->Dn n E l'->(∀u:Nat,l'.getD u 0<=l.getD u 0)->l.getD v 0=L.getD v 0->l'.getD v 0=L.getD v 0:=by
   intro l' v hv hl' hle hd;have hg:=hl'.ge hL (getD_at (l:=l') (i:=v) (by rw [hl'.1];exact hv)) (getD_at (l:=L) (i:=v) (by rw [hL.1];exact hv));have:=hle v;omega
  have dn':∀(v:Nat),v<n->(Go.Fw.rlE l e).getD v 0=L.getD v 0->(Go.Fw.lrnd D (Go.Fw.rlE l e)).getD v 0=L.getD v 0:=by
   intro v hv hd
   have hg:=k1.ge hL (getD_at (i:=v) (by rw [k1.1];exact hv)) (getD_at (l:=L) (i:=v) (by rw [hL.1];exact hv))
   have:=k2 v
   omega
  refine ⟨k1,fun v=>Int.le_trans (k2 v) (h2 v),fun e' he' => ?_⟩
  rcases List.mem_cons.1 he' with rfl|he'
  ·have hb:=hE _ hm
   exact ⟨fun hd=>dn' _ (by omega) (h3 hd),fun hd=>dn' _ (by omega) (h4 hd)⟩
  ·have hb:=hE _ (hs e' (List.mem_cons_of_mem _ he'))
   exact ⟨fun hd=>(k3 e' he').1 (dn _ (by omega) h1 h2 hd),fun hd=>(k3 e' he').2 (dn _ (by omega) h1 h2 hd)⟩
def cntD (n:Nat) (L l:List Int):Nat:=(List.range n).countP fun v=>decide (l.getD v 0=L.getD v 0)
theorem countP_lt {p q:Nat->Bool}:∀{m:List Nat},(∀x,x∈m->p x=true->q x=true)->(∃x,x∈m/\p x=false/\q x=true)->m.countP p<m.countP q
 | [],_,⟨x,hx,_⟩=>by cases hx
 | a::m,h,⟨x,hx,hp,hq⟩=>by
  rw [List.countP_cons,List.countP_cons];have hle:m.countP p<=m.countP q:=List.countP_mono_left fun y hy=>h y (List.mem_cons_of_mem _ hy)
  rcases List.mem_cons.1 hx with rfl|hx
  ·rw [if_neg (by simp [hp]),if_pos hq];omega
  ·have:=countP_lt (fun y hy=>h y (List.mem_cons_of_mem _ hy)) ⟨x,hx,hp,hq⟩;have ha:=h a (List.mem_cons_self ..);cases hpa:p a with
   | true=>rw [ha hpa];simp;omega
   | false=>cases hqa:q a<;>simp<;>omega
theorem con_step {D:Int->Prop} {u v:Int} (h:Con E u v) (hu:D u) (hv:¬D v):∃x y:Int,D x/\¬D y/\((x,y)∈E\/(y,x)∈E):=by
 induction h with
 | refl=>exact absurd hu hv
 | @fwd a b _ he ih=>
  by_cases hb:D a
  ·exact ⟨_,_,hb,hv,.inl he⟩
  ·exact ih hb
 | @bwd a b _ he ih=>
  by_cases hb:D a
  ·exact ⟨_,_,hb,hv,.inr he⟩
  ·exact ih hb
def lrnds (E:List (Int × Int)):Nat->List Int->List Int
 | 0,l=>l
 | k+1,l=>lrnds E k (Go.Fw.lrnd E l)
theorem lrnd_more (hL:Lab n E L) (hE:EIn n E) {l:List Int} (h:Dn n E l) (hs:∀v:Nat,v<n->L.getD v 0=v->l.getD v 0=v) (hne:l≠L) :
  cntD n L l<cntD n L (Go.Fw.lrnd E l):=by
 obtain ⟨k1,k2,k3⟩:=Dn.rnd hL hE E l (fun _ h=>h) h;have stay:∀v:Nat,v<n->l.getD v 0=L.getD v 0->(Go.Fw.lrnd E l).getD v 0=L.getD v 0:=by
  intro v hv hd;have hg:=k1.ge hL (getD_at (i:=v) (by rw [k1.1];exact hv)) (getD_at (l:=L) (i:=v) (by rw [hL.1];exact hv));have:=k2 v;omega
 have:∃v:Nat,v<n/\l.getD v 0≠L.getD v 0:=by
  apply Classical.byContradiction;intro hn;apply hne;apply List.ext_getElem?;intro i;by_cases hi:i<n
  ·rw [getD_at (l:=l) (i:=i) (by rw [h.1];exact hi),getD_at (l:=L) (i:=i) (by rw [hL.1];exact hi)];congr 1;exact Classical.byContradiction fun hc=>hn ⟨i,hi,hc⟩
  ·rw [List.getElem?_eq_none (by rw [h.1];omega),List.getElem?_eq_none (by rw [hL.1];omega)]
 obtain ⟨v,hv,hnd⟩:=this;have gL:=getD_at (l:=L) (i:=v) (by rw [hL.1];exact hv);have hm:=hL.lt gL;have hself:=hL.self gL;have hcon:=(hL.2 v _ gL).1;obtain ⟨x,y,hx,hy,he⟩:=con_step (D:=fun z:Int=>0<=z/\z<n/\l.getD z.toNat 0=L.getD z.toNat 0) hcon.symm
  ⟨hm.1,hm.2,by
   have e1:L.getD (L.getD v 0).toNat 0=L.getD v 0:=by rw [List.getD_eq_getElem?_getD (i:=(L.getD v 0).toNat),hself];rfl
   rw [e1,hs (L.getD v 0).toNat (by omega) (by rw [e1];omega)];omega⟩
  (fun hd=>hnd (by simpa using hd.2.2))
 refine countP_lt (fun z hz hp => ?_) ⟨y.toNat,?_,?_,?_⟩
 ·simp only [decide_eq_true_eq] at hp ⊢;exact stay z (List.mem_range.1 hz) hp
 ·rw [List.mem_range];rcases he with he|he<;>have:=hE _ he<;>simp only at this<;>omega
 ·simp only [decide_eq_false_iff_not];intro hd;apply hy;rcases he with he|he<;>have:=hE _ he<;>simp only at this<;>exact ⟨by omega,by omega,hd⟩
 ·simp only [decide_eq_true_eq];rcases he with he|he
  ·exact (k3 _ he).1 hx.2.2
  ·exact (k3 _ he).2 hx.2.2
theorem lrnds_end (hL:Lab n E L) (hE:EIn n E):∀(k:Nat) (l:List Int),Dn n E l->(∀v:Nat,v<n->L.getD v 0=v->l.getD v 0=v)->n<=cntD n L l+k->lrnds E k l=L
 | 0,l,h,hs,hc=>by
  have hall:cntD n L l=n:=by
   have:cntD n L l<=(List.range n).length:=List.countP_le_length;rw [List.length_range] at this;omega
  apply Classical.byContradiction
  intro hne
  have:=lrnd_more hL hE h hs hne
  have:cntD n L (Go.Fw.lrnd E l)<=(List.range n).length:=List.countP_le_length
  rw [List.length_range] at this
  omega
 | k+1,l,h,hs,hc=>by
  obtain ⟨k1,k2,_⟩:=Dn.rnd hL hE E l (fun _ h=>h) h
  refine lrnds_end hL hE k (Go.Fw.lrnd E l) k1 (fun v hv e => ?_) ?_
  ·have hg:=k1.ge hL (getD_at (i:=v) (by rw [k1.1];exact hv)) (getD_at (l:=L) (i:=v) (by rw [hL.1];exact hv))
   have:=k2 v
   have:=hs v hv e
   omega
  ·by_cases hne:l=L
   ·subst hne
    have:cntD n l (Go.Fw.lrnd E l)=n:=by
     unfold cntD
     rw [show n=(List.range n).length from by simp,<-List.length_range (n:=n),List.countP_eq_length.2]
     ·simp
     ·intro v hv
      simp only [List.length_range,List.mem_range] at hv
      simp only [decide_eq_true_eq]
      have hg:=k1.ge hL (getD_at (i:=v) (by rw [k1.1];exact hv)) (getD_at (l:=l) (i:=v) (by rw [hL.1];exact hv))
      have:=k2 v
      omega
    omega
   ·have:=lrnd_more hL hE h hs hne
    omega
theorem lrnds_labs (hE:EIn n E):lrnds E n (lab0 n)=labs n E:=by
 refine lrnds_end (labs_ok hE) hE n (lab0 n) ⟨lab0_len n,fun v x h => ?_⟩ (fun v hv e => ?_) (by omega)
 ·obtain ⟨_,rfl⟩:=lab0_get h;exact ⟨.refl _,Int.natCast_nonneg v⟩
 ·have:=getD_at (l:=lab0 n) (i:=v) (by rw [lab0_len];exact hv);exact (lab0_get this).2
end
theorem h_sl01In (a b c:Int):g_sl01In (a,b,c)=some (decide (b<=a)&&decide (a<=c),()):=by
 show f_sl01In BIG _=_;rw [e_sl01In];cases decide (b<=a)<;>rfl
theorem h_iin (a b c:Int):g_iin (a,b,c)=some (decide (b<=a)&&decide (a<=c),()):=by
 show f_iin BIG _=_;rw [e_iin];cases decide (b<=a)<;>rfl
abbrev Ed:=Int × Int
def insP (own:List Int) (s:Int) (y:Ed):Bool:=(decide (0<=y.1)&&decide (y.1<own.length)&&decide (own[y.1.toNat]?=some s))&&(decide (0<=y.2)&&decide (y.2<own.length)&&decide (own[y.2.toNat]?=some s))
theorem h_iowns (own:List Int) (h:own.length<=1048576) (v s:Int):g_iowns (own,v,s)=some (decide (0<=v)&&decide (v<own.length)&&decide (own[v.toNat]?=some s),()):=by
 show f_iowns BIG _=_;rw [e_iowns,h_iin,Option.bind_some,wr (by omega) (by omega)];by_cases h0:0<=v
 ·by_cases h1:v<own.length
  ·have hi:v.toNat<own.length:=by omega
   rw [decide_eq_true h0,decide_eq_true h1,decide_eq_true (by omega)];simp only [Bool.and_self,cond_true];rw [bnd_ok h0 h1,List.getElem?_eq_getElem hi];simp
  ·rw [decide_eq_true h0,decide_eq_false h1,decide_eq_false (by omega)];rfl
 ·rw [decide_eq_false h0];rfl
theorem foldl_filter {α:Type} (p:α->Bool):∀(l:List α) (s:List α),l.foldl (fun s y=>if p y then s++[y] else s) s=s++l.filter p
 | [],s=>by simp
 | y::l,s=>by
  rw [List.foldl_cons,foldl_filter p l];cases h:p y<;>simp [h]
theorem h_iInside (own:List Int) (es:List Ed) (s:Int) (h:own.length<=1048576) (he:es.length<=1048576):g_iInside (own,es,s)=some (es.filter (insP own s),()):=by
 have hm:maxLen=9223372036854775807:=by decide
 show f_iInside BIG _=_;rw [e_iInside,foldLoop es (by omega) (fun i (c:List Ed)=>c.length<=i) (fun c y=>if insP own s y then c++[y] else c) id (by simp) (fun i c y _ (h:c.length<=i)=>by show List.length (if _ then _ else _)<=_;split<;>(try simp)<;>omega)]
 ·rw [foldl_filter];rfl
 ·intro self c i y hy (hc:c.length<=i);have hi:=(List.getElem?_eq_some_iff.1 hy).1;simp only [show ((i:Int)<(es.length:Int)) from by omega,decide_true,cond_true];rw [bnd_nat hi,hy,Option.bind_some,h_iowns _ h,Option.bind_some,h_iowns _ h,wr1 (by omega)];unfold insP;cases decide (0<=y.1)&&decide (y.1<own.length)&&decide (own[y.1.toNat]?=some s)<;>cases decide (0<=y.2)&&decide (y.2<own.length)&&decide (own[y.2.toNat]?=some s)<;>simp [show c.length+1<=4294967296 from by omega]
 ·intro self c hc;simp
theorem h_sInside (own:List Int) (es:List Ed) (s:Int) (h:own.length<=1048576) (he:es.length<=1048576):g_sInside (own,es,s)=some (es.filter (insP own s),()):=by
 have hm:maxLen=9223372036854775807:=by decide
 show f_sInside BIG _=_;rw [e_sInside,foldLoop es (by omega) (fun i (c:List Ed)=>c.length<=i) (fun c y=>if insP own s y then c++[y] else c) id (by simp) (fun i c y _ (h:c.length<=i)=>by show List.length (if _ then _ else _)<=_;split<;>(try simp)<;>omega)]
 ·rw [foldl_filter];rfl
 ·intro self c i y hy (hc:c.length<=i);have hi:=(List.getElem?_eq_some_iff.1 hy).1;simp only [show ((i:Int)<(es.length:Int)) from by omega,decide_true,cond_true];rw [bnd_nat hi,hy,Option.bind_some,h_sl01In,Option.bind_some,h_sl01In,Option.bind_some,wr1 (by omega),wr (by omega) (by omega)];unfold insP;by_cases a1:0<=y.1
  ·by_cases a2:y.1<own.length
   ·by_cases b1:0<=y.2
    ·by_cases b2:y.2<own.length
     ·have k1:y.1.toNat<own.length:=by omega
      have k2:y.2.toNat<own.length:=by omega
      rw [bnd_ok a1 a2,bnd_ok b1 b2,List.getElem?_eq_getElem k1,List.getElem?_eq_getElem k2];by_cases c1:own[y.1.toNat]=s<;>by_cases c2:own[y.2.toNat]=s<;>simp [a1,a2,b1,b2,c1,c2,show y.1<=(own.length:Int)-1 from by omega,show y.2<=(own.length:Int)-1 from by omega,show c.length+1<=4294967296 from by omega]
     ·have:¬y.2<=(own.length:Int)-1:=by omega
      simp [a1,a2,b1,b2,this]
    ·simp [a1,a2,b1]
   ·have:¬y.1<=(own.length:Int)-1:=by omega
    simp [a1,a2,this]
  ·simp [a1]
 ·intro self c hc;simp
theorem findLoop {α:Type} (a:List α) (hl:a.length<18446744073709551616) (p:α->Bool) {F:(Int->Option (Unit ⊕ Int))->Int->Option (Unit ⊕ Int)}
  (hF:∀self (i:Nat) y,a[i]?=some y->F self (i:Int)=if p y then some (.inr (i:Int)) else self ((i+1:Nat):Int))
  (hE:∀self,F self (a.length:Int)=some (.inl ())):∃r,loopT BIG F 0=some r/\(r = .inl ()\/∃i:Nat,i<a.length/\r = .inr (i:Int)):=by
 refine loop_rel (F:=F) (fun x=>∃i:Nat,x=i/\i<=a.length) (fun x=>a.length-x.toNat) (fun _ r=>r = .inl ()\/∃i:Nat,i<a.length/\r = .inr (i:Int)) (fun self x ⟨i,h1,h2⟩ hs => ?_) (n:=BIG) (x:=0) (by simp;exact hl) ⟨0,rfl,by simp⟩;subst h1;by_cases hi:i<a.length
 ·rw [hF self i a[i] (List.getElem?_eq_getElem hi)];split
  ·exact ⟨_,rfl,.inr ⟨i,hi,rfl⟩⟩
  ·exact hs _ ⟨i+1,rfl,hi⟩ (by simp;omega)
 ·have:i=a.length:=by omega
  subst this;exact ⟨_,hE self,.inl rfl⟩
abbrev Cl:=Int × Int × Int × Int × Int × Int × Int
abbrev Sd:=Int × Int × Int × Int × Int × Int
theorem h_isaidAt (l:List Sd) (k:Int) (hl:l.length<=1048576):∃r:Int,g_isaidAt (l,k)=some (r,())/\g_sl15Place (l,k)=some (r,())/\r<(l.length:Int):=by
 have hm:maxLen=9223372036854775807:=by decide
 have h1:g_isaidAt (l,k)=f_isaidAt BIG (l,k):=rfl;have h2:g_sl15Place (l,k)=f_sl15Place BIG (l,k):=rfl;have h:g_sl15Place (l,k)=g_isaidAt (l,k):=by rw [h1,h2,e_isaidAt];exact e_sl15Place _ _ _
 rw [h,h1,e_isaidAt];obtain ⟨r,hr,hq⟩:=findLoop l (by omega) (fun y=>decide (y.1=k)) (F:=fun (self1:Int->Option ((Unit) ⊕ (Int))) (x0:Int)=>
  bif decide (x0<(l.length:Int)) then
   bnd l.length x0 fun n2=>
   Option.bind l[n2]? fun y3=>
   bif decide (y3.1=k) then
    some (Sum.inr x0)
   else self1 (IntKind.wrap .i64 (x0+(1:Int)))
  else some (Sum.inl ())) (fun self i y hy=>by
   have hi:=(List.getElem?_eq_some_iff.1 hy).1
   simp only [show ((i:Int)<(l.length:Int)) from by omega,decide_true,cond_true]
   rw [bnd_nat hi,hy,Option.bind_some,wr1 (by omega),Bool.cond_eq_ite]) (fun self=>by simp)
 rw [hr];rcases hq with rfl|⟨i,hi,rfl⟩
 ·exact ⟨-1,rfl,rfl,by omega⟩
 ·exact ⟨i,rfl,rfl,by omega⟩
noncomputable def pl (l:List Sd) (k:Int):Int:=match g_isaidAt (l,k) with
 | some (r,_)=>r
 | none=>0
theorem pl_105 (l:List Sd) (k:Int) (hl:l.length<=1048576):g_isaidAt (l,k)=some (pl l k,()):=by
 obtain ⟨r,h1,h2,h3⟩:=h_isaidAt l k hl;unfold pl;rw [h1]
theorem pl_102 (l:List Sd) (k:Int) (hl:l.length<=1048576):g_sl15Place (l,k)=some (pl l k,()):=by
 obtain ⟨r,h1,h2,h3⟩:=h_isaidAt l k hl;unfold pl;rw [h1,h2]
theorem pl_lt (l:List Sd) (k:Int) (hl:l.length<=1048576):pl l k<(l.length:Int):=by
 obtain ⟨r,h1,h2,h3⟩:=h_isaidAt l k hl;unfold pl;rw [h1];exact h3
def okS (l:List Sd) (y:Cl):Prop:=0<=pl l y.1/\∀z,l[(pl l y.1).toNat]?=some z->z.2.2.2.2.2=y.2.2.2.2.2.2
def InT (a:List Cl) (l:List Sd):Prop:=(∀y,y∈a->0<=y.2.2.2.2.2.1->okS l y) /\
 ∀x y,x∈a->y∈a->0<=x.2.2.2.2.2.1->0<=y.2.2.2.2.2.1->x.2.2.2.2.2.1<y.2.2.2.2.1->pl l x.1<pl l y.1
open Classical in
theorem h_iInTime (a:List Cl) (l:List Sd) (ha:a.length<=1048576) (hl:l.length<=1048576):g_iInTime (a,l)=some (decide (InT a l),()):=by
 have hm:maxLen=9223372036854775807:=by decide
 show f_iInTime BIG _=_;rw [e_iInTime,allLoop a (by omega) (fun i=>decide (∀x,a[i]?=some x->0<=x.2.2.2.2.2.1->okS l x/\∀y,y∈a->0<=y.2.2.2.2.2.1->x.2.2.2.2.2.1<y.2.2.2.2.1->pl l x.1<pl l y.1)) false]
 ·by_cases h:InT a l
  ·rw [if_pos,decide_eq_true h]
   ·rfl
   ·intro i hi;rw [decide_eq_true_eq];intro x hx h0;have hmem:=List.mem_of_getElem? hx;exact ⟨h.1 x hmem h0,fun y hy h1 h2=>h.2 x y hmem hy h0 h1 h2⟩
  ·rw [if_neg,decide_eq_false h]
   ·rfl
   ·intro hh;apply h;have each:∀x,x∈a->0<=x.2.2.2.2.2.1->okS l x/\∀y,y∈a->0<=y.2.2.2.2.2.1->x.2.2.2.2.2.1<y.2.2.2.2.1->pl l x.1<pl l y.1:=by
     intro x hx h0;obtain ⟨i,hi⟩:=List.getElem?_of_mem hx;have:=hh i (List.getElem?_eq_some_iff.1 hi).1;rw [decide_eq_true_eq] at this;exact this x hi h0
    exact ⟨fun y hy h0=>(each y hy h0).1,fun x y hx hy h0 h1 h2=>(each x hx h0).2 y hy h1 h2⟩
 ·intro self i x hx;have hi:=(List.getElem?_eq_some_iff.1 hx).1;simp only [show ((i:Int)<(a.length:Int)) from by omega,decide_true,cond_true];rw [bnd_nat hi,hx,Option.bind_some,wr1 (by omega)];simp only [Option.some.injEq,forall_eq'];by_cases h0:x.2.2.2.2.2.1<0
  ·rw [decide_eq_true h0,cond_true,Option.bind_some,if_pos (by rw [decide_eq_true_eq];intro h;omega)]
  ·rw [decide_eq_false h0,cond_false,pl_105 _ _ hl,Option.bind_some];by_cases h1:pl l x.1<0
   ·simp only [h1,decide_true,cond_true,Option.bind_some];rw [if_neg];rw [decide_eq_true_eq];intro h;have:=(h (by omega)).1.1;omega
   ·have hlt:=pl_lt l x.1 hl;simp only [h1,decide_false,cond_false];rw [bnd_ok (by omega) hlt,List.getElem?_eq_getElem (by omega:(pl l x.1).toNat<l.length)];simp only [Option.bind_some];by_cases h2:(l[(pl l x.1).toNat]'(by omega)).2.2.2.2.2=x.2.2.2.2.2.2
    ·simp only [h2,decide_true,Bool.not_true,cond_false];rw [allLoop a (by omega) (fun j=>decide (∀y,a[j]?=some y->0<=y.2.2.2.2.2.1->x.2.2.2.2.2.1<y.2.2.2.2.1->pl l x.1<pl l y.1)) false]
     ·simp only [Option.bind_some];have hs:okS l x:=⟨by omega,fun z hz=>by rw [List.getElem?_eq_getElem (by omega:(pl l x.1).toNat<l.length),Option.some.injEq] at hz;rw [<-hz];exact h2⟩
      by_cases h:∀y,y∈a->0<=y.2.2.2.2.2.1->x.2.2.2.2.2.1<y.2.2.2.2.1->pl l x.1<pl l y.1
      ·rw [if_pos,if_pos]
       ·rw [decide_eq_true_eq];exact fun _=>⟨hs,h⟩
       ·intro j hj;rw [decide_eq_true_eq];exact fun y hy=>h y (List.mem_of_getElem? hy)
      ·rw [if_neg,if_neg]
       ·rw [decide_eq_true_eq];exact fun hh=>h (hh (by omega)).2
       ·intro hh;apply h;intro y hy;obtain ⟨j,hj⟩:=List.getElem?_of_mem hy;have:=hh j (List.getElem?_eq_some_iff.1 hj).1;rw [decide_eq_true_eq] at this;exact this y hj
     ·intro self j y hy;have hj:=(List.getElem?_eq_some_iff.1 hy).1;simp only [show ((j:Int)<(a.length:Int)) from by omega,decide_true,cond_true];rw [bnd_nat hj,hy,Option.bind_some,wr1 (by omega),pl_105 _ _ hl];simp only [Option.some.injEq,forall_eq',Option.bind_some];by_cases c1:0<=y.2.2.2.2.2.1<;>by_cases c2:x.2.2.2.2.2.1<y.2.2.2.2.1<;>by_cases c3:pl l y.1<=pl l x.1;all_goals simp [c1,c2,c3]
      all_goals omega
     ·intro self;simp
    ·simp only [h2,decide_false,Bool.not_false,cond_true,Option.bind_some];rw [if_neg];rw [decide_eq_true_eq];intro h;exact h2 ((h (by omega)).1.2 _ (List.getElem?_eq_getElem _))
 ·intro self;simp
open Classical in
theorem h_sInTime (a:List Cl) (l:List Sd) (ha:a.length<=1048576) (hl:l.length<=1048576):g_sInTime (a,l)=some (decide (InT a l),()):=by
 have hm:maxLen=9223372036854775807:=by decide
 show f_sInTime BIG _=_;rw [e_sInTime,allLoop a (by omega) (fun i=>decide (∀y,a[i]?=some y->0<=y.2.2.2.2.2.1->okS l y/\∀x,x∈a->0<=x.2.2.2.2.2.1->x.2.2.2.2.2.1<y.2.2.2.2.1->pl l x.1<pl l y.1)) false]
 ·by_cases h:InT a l
  ·rw [if_pos,decide_eq_true h]
   ·rfl
   ·intro i hi;rw [decide_eq_true_eq];intro x hx h0;have hmem:=List.mem_of_getElem? hx;exact ⟨h.1 x hmem h0,fun y hy h1 h2=>h.2 y x hy hmem h1 h0 h2⟩
  ·rw [if_neg,decide_eq_false h]
   ·rfl
   ·intro hh;apply h;have each:∀y,y∈a->0<=y.2.2.2.2.2.1->okS l y/\∀x,x∈a->0<=x.2.2.2.2.2.1->x.2.2.2.2.2.1<y.2.2.2.2.1->pl l x.1<pl l y.1:=by
     intro x hx h0;obtain ⟨i,hi⟩:=List.getElem?_of_mem hx;have:=hh i (List.getElem?_eq_some_iff.1 hi).1;rw [decide_eq_true_eq] at this;exact this x hi h0
    exact ⟨fun y hy h0=>(each y hy h0).1,fun x y hx hy h0 h1 h2=>(each y hy h1).2 x hx h0 h2⟩
 ·intro self i x hx;have hi:=(List.getElem?_eq_some_iff.1 hx).1;simp only [show ((i:Int)<(a.length:Int)) from by omega,decide_true,cond_true];simp only [bnd_nat hi,hx,Option.bind_some,wr1 (show i<maxLen from by omega)];simp only [Option.some.injEq,forall_eq'];by_cases h0:x.2.2.2.2.2.1<0
  ·rw [decide_eq_true h0,cond_true,Option.bind_some,if_pos (by rw [decide_eq_true_eq];intro h;omega)]
  ·rw [decide_eq_false h0,cond_false,pl_102 _ _ hl,Option.bind_some];by_cases h1:pl l x.1<0
   ·simp only [h1,decide_true,cond_true,Option.bind_some];rw [if_neg];rw [decide_eq_true_eq];intro h;have:=(h (by omega)).1.1;omega
   ·have hlt:=pl_lt l x.1 hl;simp only [h1,decide_false,cond_false];rw [bnd_ok (by omega) hlt,List.getElem?_eq_getElem (by omega:(pl l x.1).toNat<l.length)];simp only [Option.bind_some];by_cases h2:(l[(pl l x.1).toNat]'(by omega)).2.2.2.2.2=x.2.2.2.2.2.2
    ·simp only [h2,decide_true,Bool.not_true,cond_false];rw [allLoop a (by omega) (fun j=>decide (∀y,a[j]?=some y->0<=y.2.2.2.2.2.1->y.2.2.2.2.2.1<x.2.2.2.2.1->pl l y.1<pl l x.1)) false]
     ·simp only [Option.bind_some];have hs:okS l x:=⟨by omega,fun z hz=>by rw [List.getElem?_eq_getElem (by omega:(pl l x.1).toNat<l.length),Option.some.injEq] at hz;rw [<-hz];exact h2⟩
      by_cases h:∀y,y∈a->0<=y.2.2.2.2.2.1->y.2.2.2.2.2.1<x.2.2.2.2.1->pl l y.1<pl l x.1
      ·rw [if_pos,if_pos]
       ·rw [decide_eq_true_eq];exact fun _=>⟨hs,h⟩
       ·intro j hj;rw [decide_eq_true_eq];exact fun y hy=>h y (List.mem_of_getElem? hy)
      ·rw [if_neg,if_neg]
       ·rw [decide_eq_true_eq];exact fun hh=>h (hh (by omega)).2
       ·intro hh;apply h;intro y hy;obtain ⟨j,hj⟩:=List.getElem?_of_mem hy;have:=hh j (List.getElem?_eq_some_iff.1 hj).1;rw [decide_eq_true_eq] at this;exact this y hj
     ·intro self j y hy;have hj:=(List.getElem?_eq_some_iff.1 hy).1;simp only [show ((j:Int)<(a.length:Int)) from by omega,decide_true,cond_true];simp only [bnd_nat hj,hy,Option.bind_some,wr1 (show j<maxLen from by omega),pl_102 _ _ hl];simp only [Option.some.injEq,forall_eq',Option.bind_some];by_cases c1:0<=y.2.2.2.2.2.1<;>by_cases c2:y.2.2.2.2.2.1<x.2.2.2.2.1<;>by_cases c3:pl l x.1<=pl l y.1;all_goals simp [c1,c2,c3]
      all_goals omega
     ·intro self;simp
    ·simp only [h2,decide_false,Bool.not_false,cond_true,Option.bind_some];rw [if_neg];rw [decide_eq_true_eq];intro h;exact h2 ((h (by omega)).1.2 _ (List.getElem?_eq_getElem _))
 ·intro self;simp
def inB (a b c:Int):Bool:=decide (b<=a)&&decide (a<=c)
theorem h_sl01In' (a b c:Int):g_sl01In (a,b,c)=some (inB a b c,()):=h_sl01In a b c
theorem h_iin' (a b c:Int):g_iin (a,b,c)=some (inB a b c,()):=h_iin a b c
theorem inB_t {a b c:Int}:inB a b c=true↔b<=a/\a<=c:=by simp [inB]
def edB (n:Int) (e:Ed):Bool:=inB n 1 12&&(inB e.1 0 (n-1)&&(inB e.2 0 (n-1)&&decide (e.1<e.2)))
theorem h_iEdgeOk (n:Int) (e:Ed):g_iEdgeOk (n,e)=some (edB n e,()):=by
 show f_iEdgeOk BIG _=_;rw [e_iEdgeOk,h_iin',Option.bind_some];unfold edB;cases h:inB n 1 12 with
 | false=>rfl
 | true=>
  have:=inB_t.1 h;rw [wr (by omega) (by omega)];simp only [h_iin',Option.bind_some,cond_true,Bool.true_and];cases inB e.1 0 (n-1)<;>cases inB e.2 0 (n-1)<;>rfl
theorem h_sEdgeOk (n:Int) (e:Ed):g_sEdgeOk (n,e)=some (edB n e,()):=by
 show f_sEdgeOk BIG _=_;rw [e_sEdgeOk,h_sl01In',Option.bind_some];unfold edB;cases h:inB n 1 12 with
 | false=>rfl
 | true=>
  have:=inB_t.1 h;rw [wr (by omega) (by omega)];simp only [h_sl01In',Option.bind_some,cond_true,Bool.true_and];cases inB e.1 0 (n-1)<;>cases inB e.2 0 (n-1)<;>rfl
def lsB (x y:Ed):Bool:=decide (x.1<y.1) || (decide (x.1=y.1)&&decide (x.2<y.2))
theorem h_iahead (x y:Ed):g_iahead (x,y)=some (lsB x y,()):=by
 show f_iahead BIG _=_;rw [e_iahead];unfold lsB;cases decide (x.1<y.1)<;>cases decide (x.1=y.1)<;>rfl
theorem h_sl05Less (x y:Ed):g_sl05Less (x,y)=some (lsB x y,()):=by
 show f_sl05Less BIG _=_;rw [e_sl05Less];unfold lsB;cases decide (x.1<y.1)<;>cases decide (x.1=y.1)<;>rfl
def eP (n:Int) (es:List Ed) (i:Nat):Bool:=match es[i]? with
 | some y=>edB n y&&(match i with
  | 0=>true
  | j+1=>match es[j]? with
   | some x=>lsB x y
   | none=>false)
 | none=>false
theorem eP_0 {n:Int} {es:List Ed} {y:Ed} (h:es[0]?=some y):eP n es 0=edB n y:=by
 unfold eP;rw [h];simp
theorem eP_s {n:Int} {es:List Ed} {x y:Ed} {j:Nat} (h:es[j+1]?=some y) (h':es[j]?=some x):eP n es (j+1)=(edB n y&&lsB x y):=by
 unfold eP;rw [h];simp only [h']
def eOk (n:Int) (es:List Ed):Bool:=if ∀i,i<es.length->eP n es i=true then decide ((es.length:Int)<=66) else false
theorem eOk_len {n:Int} {es:List Ed} (h:eOk n es=true):es.length<=66:=by
 unfold eOk at h;split at h
 ·rw [decide_eq_true_eq] at h;omega
 ·cases h
theorem h_iedgesOk (n:Int) (es:List Ed) (hl:es.length<=1048576):g_iedgesOk (n,es)=some (eOk n es,()):=by
 have hm:maxLen=9223372036854775807:=by decide
 show f_iedgesOk BIG _=_;rw [e_iedgesOk,allLoop es (by omega) (eP n es) false]
 ·unfold eOk;split<;>rfl
 ·intro self i y hy;have hi:=(List.getElem?_eq_some_iff.1 hy).1;simp only [show ((i:Int)<(es.length:Int)) from by omega,decide_true,cond_true];rw [bnd_nat hi,hy,Option.bind_some,h_iEdgeOk,wr1 (by omega)];cases i with
  | zero=>
   rw [eP_0 hy];cases edB n y<;>simp
  | succ j=>
   have hj:es[j]?=some (es[j]'(by omega)):=List.getElem?_eq_getElem (by omega);rw [eP_s hy hj,show (((j+1:Nat):Int)-1)=(j:Int) from by omega,wr (n:=(j:Int)) (by omega) (by omega)];cases hb:edB n y with
   | false=>simp
   | true=>
    simp only [Option.bind_some,Bool.not_true,cond_false,show (0:Int)<((j+1:Nat):Int) from by omega,decide_true,cond_true,Bool.true_and];rw [bnd_nat (by omega),hj];simp only [Option.bind_some];simp only [Option.bind_some,h_iahead];cases lsB _ y<;>rfl
 ·intro self;simp
theorem h_sl05Edges (n:Int) (es:List Ed) (hl:es.length<=1048576):g_sl05Edges (n,es)=some (eOk n es,()):=by
 have hm:maxLen=9223372036854775807:=by decide
 show f_sl05Edges BIG _=_;rw [e_sl05Edges,allLoop es (by omega) (eP n es) false]
 ·unfold eOk;split<;>rfl
 ·intro self i y hy;have hi:=(List.getElem?_eq_some_iff.1 hy).1;simp only [show ((i:Int)<(es.length:Int)) from by omega,decide_true,cond_true];rw [bnd_nat hi,hy,Option.bind_some,h_sEdgeOk,wr1 (by omega)];cases i with
  | zero=>
   rw [eP_0 hy];cases edB n y<;>simp
  | succ j=>
   have hj:es[j]?=some (es[j]'(by omega)):=List.getElem?_eq_getElem (by omega);rw [eP_s hy hj,show (((j+1:Nat):Int)-1)=(j:Int) from by omega,wr (n:=(j:Int)) (by omega) (by omega)];cases hb:edB n y with
   | false=>simp
   | true=>
    simp only [Option.bind_some,Bool.not_true,cond_false,show (0:Int)<((j+1:Nat):Int) from by omega,decide_true,cond_true,Bool.true_and];rw [bnd_nat (by omega),hj];simp only [Option.bind_some];rw [bnd_nat hi,hy];simp only [Option.bind_some,h_sl05Less];cases lsB _ y<;>rfl
 ·intro self;simp
abbrev Or':=Int × Int × List (Int × Int) × Int
def ordB (n:Int) (o:Or'):Bool:=inB n 1 12&&(inB o.1 1 100000&&(inB o.2.1 1 4&&(eOk n o.2.2.1&&(if o.2.1=3 then decide (o.2.2.1.length=0)&&inB o.2.2.2 0 (n-1) else if o.2.1=4 then decide (0<o.2.2.1.length)&&decide (o.2.2.2=0) else decide (o.2.2.1.length=1)&&decide (o.2.2.2=0)))))
theorem h_sOrderOk (n:Int) (o:Or') (hl:o.2.2.1.length<=1048576):g_sOrderOk (n,o)=some (ordB n o,()):=by
 show f_sOrderOk BIG _=_;rw [e_sOrderOk];simp only [h_sl01In',h_sl05Edges n _ hl,Option.bind_some];unfold ordB;cases h:inB n 1 12 with
 | false=>rfl
 | true=>
  have:=inB_t.1 h;rw [wr (by omega) (by omega)];cases h1:inB o.1 1 100000 with
  | false=>rfl
  | true=>
   cases h2:inB o.2.1 1 4 with
   | false=>rfl
   | true=>
    cases h3:eOk n o.2.2.1 with
    | false=>rfl
    | true=>
     simp only [Bool.not_true,cond_false,Option.bind_some,Bool.true_and];by_cases k3:o.2.1=3
     ·rw [if_pos k3,decide_eq_true k3,cond_true];by_cases hz:o.2.2.1.length=0
      ·rw [decide_eq_true hz,decide_eq_true (by omega)];rfl
      ·rw [decide_eq_false hz,decide_eq_false (by omega)];rfl
     ·rw [if_neg k3,decide_eq_false k3,cond_false];by_cases k4:o.2.1=4
      ·rw [if_pos k4,decide_eq_true k4,cond_true];by_cases hz:0<o.2.2.1.length
       ·rw [decide_eq_true hz,decide_eq_true (by omega)];rfl
       ·rw [decide_eq_false hz,decide_eq_false (by omega)];rfl
      ·rw [if_neg k4,decide_eq_false k4,cond_false];by_cases hz:o.2.2.1.length=1
       ·rw [decide_eq_true hz,decide_eq_true (by omega)];rfl
       ·rw [decide_eq_false hz,decide_eq_false (by omega)];rfl
theorem h_iOrderOk (n:Int) (o:Or') (hl:o.2.2.1.length<=1048576):g_iOrderOk (n,o)=some (ordB n o,()):=by
 show f_iOrderOk BIG _=_;rw [e_iOrderOk];simp only [h_iin',h_iedgesOk n _ hl,Option.bind_some];unfold ordB;cases h:inB n 1 12 with
 | false=>rfl
 | true=>
  have:=inB_t.1 h;rw [wr (by omega) (by omega)];cases h1:inB o.1 1 100000 with
  | false=>rfl
  | true=>
   cases h3:eOk n o.2.2.1 with
   | false=>simp
   | true=>
    simp only [Bool.not_true,cond_false,Option.bind_some,Bool.true_and];by_cases k3:o.2.1=3
    ·have h2:inB o.2.1 1 4=true:=inB_t.2 (by omega);rw [h2,if_pos k3,decide_eq_true k3];rw [decide_eq_false (by omega:¬o.2.1=1),decide_eq_false (by omega:¬o.2.1=2)];by_cases hz:o.2.2.1.length=0
     ·rw [decide_eq_true hz,decide_eq_true (show (o.2.2.1.length:Int)=0 from by omega)];by_cases hv:o.2.2.2=0<;>simp [hv]
     ·rw [decide_eq_false hz,decide_eq_false (show ¬(o.2.2.1.length:Int)=0 from by omega)];by_cases hv:o.2.2.2=0<;>simp [hv]
    ·rw [if_neg k3,decide_eq_false k3];by_cases hv:o.2.2.2=0
     ·simp only [hv,decide_true,Bool.not_true,cond_false,Option.bind_some,Bool.and_true];by_cases k4:o.2.1=4
      ·have h2:inB o.2.1 1 4=true:=inB_t.2 (by omega);rw [h2,if_pos k4,decide_eq_true k4,decide_eq_false (by omega:¬o.2.1=1),decide_eq_false (by omega:¬o.2.1=2)];simp
      ·rw [if_neg k4,decide_eq_false k4];by_cases k1:o.2.1=1
       ·have h2:inB o.2.1 1 4=true:=inB_t.2 (by omega);rw [h2,decide_eq_true k1];simp;omega
       ·by_cases k2:o.2.1=2
        ·have h2:inB o.2.1 1 4=true:=inB_t.2 (by omega);rw [h2,decide_eq_false k1,decide_eq_true k2];simp;omega
        ·have h2:inB o.2.1 1 4=false:=by
          cases hh:inB o.2.1 1 4 with
          | false=>rfl
          | true=>have:=inB_t.1 hh;omega
         rw [h2,decide_eq_false k1,decide_eq_false k2];rfl
     ·simp [hv]
def lbP (l:List Int) (i:Nat):Bool:=match l[i]? with
 | some y=>inB y 0 i&&(match l[y.toNat]? with
  | some z=>decide (z=y)
  | none=>false)
 | none=>false
theorem lbP_eq {l:List Int} {i:Nat} {y z:Int} (h:l[i]?=some y) (h':l[y.toNat]?=some z):lbP l i=(inB y 0 i&&decide (z=y)):=by
 unfold lbP;rw [h];simp only [h']
theorem lbP_f {l:List Int} {i:Nat} {y:Int} (h:l[i]?=some y) (h':inB y 0 i=false):lbP l i=false:=by
 unfold lbP;rw [h];simp only [h',Bool.false_and]
def lbOk (n:Int) (l:List Int):Bool:=if (l.length:Int)=n then (if ∀i,i<l.length->lbP l i=true then true else false) else false
theorem h_ilabelsOk (n:Int) (l:List Int) (hl:l.length<=1048576):g_ilabelsOk (n,l)=some (lbOk n l,()):=by
 have hm:maxLen=9223372036854775807:=by decide
 show f_ilabelsOk BIG _=_;rw [e_ilabelsOk];unfold lbOk;by_cases hn:(l.length:Int)=n
 ·rw [if_pos hn,decide_eq_true hn,Bool.not_true,cond_false,allLoop l (by omega) (lbP l) false]
  ·split<;>rfl
  ·intro self i y hy;have hi:=(List.getElem?_eq_some_iff.1 hy).1;simp only [show ((i:Int)<(l.length:Int)) from by omega,decide_true,cond_true];rw [bnd_nat hi,hy,Option.bind_some,h_iin',wr1 (by omega)];cases hb:inB y 0 (i:Int) with
   | false=>rw [lbP_f hy hb];simp
   | true=>
    have:=inB_t.1 hb;have hz:l[y.toNat]?=some (l[y.toNat]'(by omega)):=List.getElem?_eq_getElem (by omega);rw [lbP_eq hy hz,hb];simp only [Option.bind_some,Bool.not_true,cond_false,Bool.true_and];rw [bnd_ok (by omega) (by omega),hz];simp only [Option.bind_some];by_cases hd:l[y.toNat]'(by omega)=y<;>simp [hd]
  ·intro self;simp
 ·rw [if_neg hn,decide_eq_false hn];rfl
theorem h_sl09Labels (n:Int) (l:List Int) (hl:l.length<=1048576):g_sl09Labels (n,l)=some (lbOk n l,()):=by
 have hm:maxLen=9223372036854775807:=by decide
 show f_sl09Labels BIG _=_;rw [e_sl09Labels];unfold lbOk;by_cases hn:(l.length:Int)=n
 ·rw [if_pos hn,decide_eq_true hn,Bool.not_true,cond_false];subst hn;rw [allLoop l (by omega) (lbP l) false]
  ·split<;>rfl
  ·intro self i y hy;have hi:=(List.getElem?_eq_some_iff.1 hy).1;simp only [show ((i:Int)<(l.length:Int)) from by omega,decide_true,cond_true];simp only [bnd_nat hi,hy,Option.bind_some,h_sl01In',wr1 (show i<maxLen from by omega)];cases hb:inB y 0 (i:Int) with
   | false=>rw [lbP_f hy hb];simp
   | true=>
    have:=inB_t.1 hb;have hz:l[y.toNat]?=some (l[y.toNat]'(by omega)):=List.getElem?_eq_getElem (by omega);rw [lbP_eq hy hz,hb];simp only [Option.bind_some,Bool.not_true,cond_false,Bool.true_and];rw [bnd_ok (by omega) (by omega),hz];simp only [Option.bind_some];by_cases hd:l[y.toNat]'(by omega)=y<;>simp [hd]
  ·intro self;simp
 ·rw [if_neg hn,decide_eq_false hn];rfl
abbrev An:=Int × Bool × List (Int × Int) × List Int
def ansB (n:Int) (o:An):Bool:=inB n 1 12&&(inB o.1 1 100000&&(eOk n o.2.2.1&&lbOk n o.2.2.2))
theorem h_iAnswerOk (n:Int) (o:An) (hl:o.2.2.1.length<=1048576) (hl':o.2.2.2.length<=1048576):g_iAnswerOk (n,o)=some (ansB n o,()):=by
 show f_iAnswerOk BIG _=_;rw [e_iAnswerOk];simp only [h_iin',h_iedgesOk n _ hl,h_ilabelsOk n _ hl',Option.bind_some];unfold ansB;cases inB n 1 12<;>cases inB o.1 1 100000<;>cases eOk n o.2.2.1<;>rfl
theorem h_sAnswerOk (n:Int) (o:An) (hl:o.2.2.1.length<=1048576) (hl':o.2.2.2.length<=1048576):g_sAnswerOk (n,o)=some (ansB n o,()):=by
 show f_sAnswerOk BIG _=_;rw [e_sAnswerOk];simp only [h_sl01In',h_sl05Edges n _ hl,h_sl09Labels n _ hl',Option.bind_some];unfold ansB;cases inB n 1 12<;>cases inB o.1 1 100000<;>cases eOk n o.2.2.1<;>rfl
theorem lsB_irrefl (x:Ed):lsB x x=false:=by simp [lsB]
theorem lsB_iff (x y:Ed):lsB x y=true↔x.1<y.1\/(x.1=y.1/\x.2<y.2):=by simp [lsB]
theorem lsB_trans {x y z:Ed} (h:lsB x y=true) (h':lsB y z=true):lsB x z=true:=by
 rw [lsB_iff] at *;omega
theorem lsB_tri {x y:Ed} (h:lsB x y=false) (h':lsB y x=false):x=y:=by
 have h1:¬lsB x y=true:=by simp [h]
 have h2:¬lsB y x=true:=by simp [h']
 rw [lsB_iff] at h1 h2;exact Prod.ext (by omega) (by omega)
theorem lsB_asymm {x y:Ed} (h:lsB x y=true):lsB y x=false:=by
 cases h':lsB y x with
 | false=>rfl
 | true=>have:=lsB_trans h h';rw [lsB_irrefl] at this;cases this
abbrev Srt (l:List Ed):Prop:=l.Pairwise (fun x y=>lsB x y=true)
theorem srt_eq:∀{a b:List Ed},Srt a->Srt b->(∀x,x∈a↔x∈b)->a=b
 | [],[],_,_,_=>rfl
 | [],y::b,_,_,h=>absurd ((h y).2 (by simp)) (by simp)
 | x::a,[],_,_,h=>absurd ((h x).1 (by simp)) (by simp)
 | x::a,y::b,ha,hb,h=>by
  rw [Srt,List.pairwise_cons] at ha hb
  have hxy:x=y:=by
   have h1:=(h x).1 (by simp);have h2:=(h y).2 (by simp);rcases List.mem_cons.1 h1 with h1|h1
   ·exact h1
   ·rcases List.mem_cons.1 h2 with h2|h2
    ·exact h2.symm
    ·have k1:=hb.1 x h1;have k2:=ha.1 y h2;rw [lsB_asymm k1] at k2;cases k2
  subst hxy
  congr 1
  refine srt_eq ha.2 hb.2 fun z=>⟨fun hz => ?_,fun hz => ?_⟩
  ·rcases List.mem_cons.1 ((h z).1 (by simp [hz])) with h1|h1
   ·subst h1;have:=ha.1 z hz;rw [lsB_irrefl] at this;cases this
   ·exact h1
  ·rcases List.mem_cons.1 ((h z).2 (by simp [hz])) with h1|h1
   ·subst h1;have:=hb.1 z hz;rw [lsB_irrefl] at this;cases this
   ·exact h1
def ins (l:List Ed) (e:Ed):List Ed:=l.filter (fun y=>lsB y e)++[e]++l.filter (fun y=>lsB e y)
theorem ins_mem {l:List Ed} {e x:Ed}:x∈ins l e↔x=e\/x∈l:=by
 simp only [ins,List.mem_append,List.mem_filter,List.mem_singleton];constructor
 ·rintro ((h|h)|h)
  ·exact .inr h.1
  ·exact .inl h
  ·exact .inr h.1
 ·rintro (h|h)
  ·exact .inl (.inr h)
  ·cases h1:lsB x e with
   | true=>exact .inl (.inl ⟨h,rfl⟩)
   | false=>
    cases h2:lsB e x with
    | true=>exact .inr ⟨h,rfl⟩
    | false=>exact .inl (.inr (lsB_tri h1 h2))
theorem ins_srt {l:List Ed} {e:Ed} (h:Srt l):Srt (ins l e):=by
 simp only [ins,Srt,List.append_assoc,List.pairwise_append,List.singleton_append,List.pairwise_cons];refine ⟨h.filter _,⟨fun y hy=>(List.mem_filter.1 hy).2,h.filter _⟩,fun x hx y hy => ?_⟩;have h1:=(List.mem_filter.1 hx).2;rcases List.mem_cons.1 hy with hy|hy
 ·subst hy;exact h1
 ·exact lsB_trans h1 (List.mem_filter.1 hy).2
theorem filter_two_len (e:Ed):∀l:List Ed,(l.filter (fun y=>lsB y e)).length+(l.filter (fun y=>lsB e y)).length<=l.length
 | []=>by simp
 | y::l=>by
  have:=filter_two_len e l;simp only [List.filter_cons];cases h1:lsB y e<;>cases h2:lsB e y<;>simp
  ·omega
  ·omega
  ·omega
  ·rw [lsB_asymm h1] at h2;cases h2
theorem ins_len (l:List Ed) (e:Ed):(ins l e).length<=l.length+1:=by
 have:=filter_two_len e l;simp only [ins,List.length_append,List.length_singleton];omega
def fdI:List Ed->Ed->Nat
 | [],_=>0
 | y::l,e=>if lsB y e then fdI l e+1 else 0
theorem fdI_ins {l:List Ed} {e:Ed} (h:Srt l) (hne:e∉l):l.take (fdI l e)++[e]++l.drop (fdI l e)=ins l e:=by
 induction l with
 | nil=>rfl
 | cons y l ih=>
  rw [Srt,List.pairwise_cons] at h;have ih:=ih h.2 (fun hh=>hne (by simp [hh]));cases h1:lsB y e with
  | true=>
   have h2:=lsB_asymm h1;simp only [fdI,h1,if_true,List.take_succ_cons,List.drop_succ_cons,List.cons_append,ih];simp only [ins,List.filter_cons,h1,h2,if_true,List.cons_append];simp
  | false=>
   have h2:lsB e y=true:=by
    cases h2:lsB e y with
    | true=>rfl
    | false=>exact absurd (lsB_tri h1 h2).symm (fun hh=>hne (by simp [hh]))
   have h3:∀z,z∈l->lsB z e=false/\lsB e z=true:=fun z hz=>by
    have:=lsB_trans h2 (h.1 z hz);exact ⟨lsB_asymm this,this⟩
   have f1:l.filter (fun y=>lsB y e)=[]:=by
    rw [List.filter_eq_nil_iff];intro z hz;simp [(h3 z hz).1]
   have f2:l.filter (fun y=>lsB e y)=l:=by
    rw [List.filter_eq_self];intro z hz;exact (h3 z hz).2
   simp only [fdI,h1,ins,List.filter_cons,h2,if_true,f1,f2];simp
theorem h_sl05Has (l:List Ed) (e:Ed) (hl:l.length<=maxLen):g_sl05Has (l,e)=some (decide (e∈l),()):=by
 show f_sl05Has BIG _=_;rw [e_sl05Has,allLoop l (Nat.lt_of_le_of_lt hl maxLen_lt) (fun i=>decide (l[i]?≠some e)) true (fun self i y hy=>by
   have hi:=(List.getElem?_eq_some_iff.1 hy).1
   simp only [show ((i:Int)<(l.length:Int)) from by omega,decide_true,cond_true]
   rw [bnd_nat hi,hy,Option.bind_some,wr1 (by omega)]
   obtain ⟨y1,y2⟩:=y
   obtain ⟨e1,e2⟩:=e
   by_cases h1:y1=e1<;>by_cases h2:y2=e2<;>simp [h1,h2]) (fun self=>by simp)]
 by_cases h:e∈l
 ·rw [if_neg,decide_eq_true h]
  ·rfl
  ·intro hh;obtain ⟨i,hi⟩:=List.getElem?_of_mem h;have:=hh i (List.getElem?_eq_some_iff.1 hi).1;rw [decide_eq_true_eq] at this;exact this hi
 ·rw [if_pos,decide_eq_false h]
  ·rfl
  ·intro i hi;rw [decide_eq_true_eq];exact fun hh=>h (List.mem_of_getElem? hh)
theorem h_ihasEdge (l:List Ed) (e:Ed) (hl:l.length<=maxLen):g_ihasEdge (l,e)=some (decide (e∈l),()):=by
 rw [<-h_sl05Has l e hl];show f_ihasEdge BIG _=f_sl05Has BIG _;rw [e_ihasEdge,e_sl05Has];all_goals rfl
theorem h_sl05Put (l:List Ed) (e:Ed) (hl:l.length<=2100000):g_sl05Put (l,e)=some (ins l e,()):=by
 have hm:maxLen=9223372036854775807:=by decide
 show f_sl05Put BIG _=_;rw [e_sl05Put,foldLoop l (by omega) (fun i (c:List Ed)=>c.length<=i) (fun c y=>if lsB y e then c++[y] else c) id (by simp) (fun i c y _ (h:c.length<=i)=>by show List.length (if _ then _ else _)<=_;split<;>(try simp)<;>omega)]
 ·rw [foldl_filter];simp only [id,List.nil_append,Option.bind_some];have h1:=List.length_filter_le (fun y=>lsB y e) l;rw [decide_eq_true (by simp;omega),cond_true,foldLoop l (by omega) (fun i (c:List Ed)=>c.length<=l.length+1+i) (fun c y=>if lsB e y then c++[y] else c) id (by simp;omega) (fun i c y _ (h:c.length<=_)=>by show List.length (if _ then _ else _)<=_;split<;>(try simp)<;>omega)]
  ·rw [foldl_filter];rfl
  ·intro self c i y hy (hc:c.length<=_);have hi:=(List.getElem?_eq_some_iff.1 hy).1;simp only [show ((i:Int)<(l.length:Int)) from by omega,decide_true,cond_true];simp only [bnd_nat hi,hy,Option.bind_some,h_sl05Less,wr1 (show i<maxLen from by omega)];cases lsB e y with
   | false=>simp
   | true=>simp [show c.length+1<=4294967296 from by omega]
  ·intro self c hc;simp
 ·intro self c i y hy (hc:c.length<=i);have hi:=(List.getElem?_eq_some_iff.1 hy).1;simp only [show ((i:Int)<(l.length:Int)) from by omega,decide_true,cond_true];simp only [bnd_nat hi,hy,Option.bind_some,h_sl05Less,wr1 (show i<maxLen from by omega)];cases lsB y e with
  | false=>simp
  | true=>simp [show c.length+1<=4294967296 from by omega]
 ·intro self c hc;simp
theorem fdI_le:∀(l:List Ed) (e:Ed),fdI l e<=l.length
 | [],_=>by simp [fdI]
 | y::l,e=>by
  have:=fdI_le l e;simp only [fdI,List.length_cons];split<;>omega
theorem fdI_at:∀{l:List Ed} {e y:Ed} {i:Nat},i<=fdI l e->l[i]?=some y->lsB y e=decide (i<fdI l e)
 | [],_,_,_,_,hy=>by simp at hy
 | z::l,e,y,i,hi,hy=>by
  cases hz:lsB z e with
  | false=>
   simp only [fdI,hz] at hi ⊢;have:i=0:=by simpa using hi
   subst this;simp only [List.getElem?_cons_zero,Option.some.injEq] at hy;subst hy;simp [hz]
  | true=>
   simp only [fdI,hz,if_true] at hi ⊢;cases i with
   | zero=>
    simp only [List.getElem?_cons_zero,Option.some.injEq] at hy;subst hy;simp [hz]
   | succ i=>
    simp only [List.getElem?_cons_succ] at hy;rw [fdI_at (by omega) hy];simp
theorem h_iwithEdge (l:List Ed) (e:Ed) (hl:l.length<=2100000):g_iwithEdge (l,e)=some (l.take (fdI l e)++[e]++l.drop (fdI l e),()):=by
 have hm:maxLen=9223372036854775807:=by decide
 have hle:=fdI_le l e;show f_iwithEdge BIG _=_;rw [e_iwithEdge,loop_eq (fun (x:Int)=>∃i:Nat,x=i/\i<=fdI l e) (fun (x:Int)=>l.length-x.toNat) (fun _=>((fdI l e:Nat):Int)) (fun self x ⟨i,h1,h2⟩ hs=>by
  subst h1
  by_cases hi:i<l.length
  ·have hy:=List.getElem?_eq_getElem hi
   have hat:=fdI_at h2 hy
   simp only [show ((i:Int)<(l.length:Int)) from by omega,decide_true,cond_true]
   simp only [bnd_nat hi,hy,Option.bind_some,h_iahead,wr1 (show i<maxLen from by omega),hat]
   by_cases hlt:i<fdI l e
   ·rw [decide_eq_true hlt,cond_true]
    exact hs _ ⟨i+1,rfl,hlt⟩ (by simp;omega)
   ·rw [decide_eq_false hlt,cond_false]
    have:i=fdI l e:=by omega
    rw [<-this]
  ·have:i=l.length:=by omega
   have h3:fdI l e=i:=by omega
   rw [h3,this]
   simp) (n:=BIG) (x:=0) (by simp [BIG];omega) ⟨0,rfl,by omega⟩]
 simp only [Option.bind_some,Int.toNat_natCast,Nat.sub_zero,List.drop_zero];rw [decide_eq_true (by omega),cond_true,decide_eq_true (by omega),cond_true,decide_eq_true (by simp;omega),cond_true,decide_eq_true (by simp;omega),cond_true,cond_true,decide_eq_true (by omega),cond_true,decide_eq_true (by simp;omega),cond_true];congr 3;rw [List.take_of_length_le];simp
def fM {S α:Type} (st:S->α->Option S):S->List α->Option S
 | s,[]=>some s
 | s,y::l=>(st s y).bind fun s'=>fM st s' l
theorem exitLoop {α S B:Type} (a:List α) (hl:a.length<18446744073709551616) {F:(S × Int->Option (S ⊕ B))->S × Int->Option (S ⊕ B)} (I:Nat->S->Prop) (st:S->α->Option S) (b:B) {s0:S} (h0:I 0 s0)
  (hI:∀i s y s',a[i]?=some y->I i s->st s y=some s'->I (i+1) s')
  (hF:∀self s (i:Nat) y,a[i]?=some y->I i s->F self (s,(i:Int))=match st s y with
   | some s'=>self (s',((i+1:Nat):Int))
   | none=>some (.inr b))
  (hE:∀self s,I a.length s->F self (s,(a.length:Int))=some (.inl s)):loopT BIG F (s0,0)=some (match fM st s0 a with
   | some s=>.inl s
   | none=>.inr b):=by
 have:=loop_eq (F:=F) (fun x=>∃i:Nat,x.2=i/\i<=a.length/\I i x.1) (fun x=>a.length-x.2.toNat) (fun x=>match fM st x.1 (a.drop x.2.toNat) with
   | some s=>.inl s
   | none=>.inr b) (fun self x ⟨i,h1,h2,h3⟩ hs => ?_) (n:=BIG) (x:=(s0,0)) (by simp;exact hl) ⟨0,rfl,by simp,h0⟩
 ·simpa using this
 ·obtain ⟨s,j⟩:=x;simp only at h1 h2 h3;subst h1;by_cases hi:i<a.length
  ·have hy:=List.getElem?_eq_getElem hi;rw [hF self s i a[i] hy h3];simp only [Int.toNat_natCast];rw [List.drop_eq_getElem_cons hi];simp only [fM];cases hst:st s a[i] with
   | none=>rfl
   | some s'=>
    simp only [Option.bind_some];rw [hs _ ⟨i+1,rfl,hi,hI _ _ _ _ hy h3 hst⟩ (by simp;omega)];simp
  ·have:i=a.length:=by omega
   subst this;rw [hE self s h3];simp [fM]
theorem fM_flat {S α:Type} (st:S->α->Option S):∀(l:List (List α)) (s:S),fM st s l.flatten=fM (fun s y=>fM st s y) s l
 | [],s=>rfl
 | y::l,s=>by
  have app:∀(a b:List α) (s:S),fM st s (a++b)=(fM st s a).bind fun s'=>fM st s' b:=by
   intro a b;induction a with
   | nil=>intro s;rfl
   | cons x a ih=>
    intro s;simp only [List.cons_append,fM,ih,Option.bind_assoc]
  simp only [List.flatten_cons,app,fM]
  congr 1
  funext s'
  exact fM_flat st l s'
def stE (out:List Ed) (e:Ed):Option (List Ed):=if e∈out then none else some (ins out e)
theorem stE_some {out s':List Ed} {e:Ed} (h:stE out e=some s'):e∉out/\s'=ins out e:=by
 unfold stE at h;split at h
 ·cases h
 ·cases h;exact ⟨by assumption,rfl⟩
theorem fM_some:∀{A s s':List Ed},fM stE s A=some s'->A.Nodup/\(∀x,x∈A->x∉s)/\(∀x,x∈s'↔x∈s\/x∈A)/\(Srt s->Srt s')/\s'.length<=s.length+A.length
 | [],s,s',h=>by
  simp only [fM,Option.some.injEq] at h;subst h;exact ⟨List.nodup_nil,by simp,by simp,id,by simp⟩
 | e::A,s,s',h=>by
  simp only [fM,Option.bind_eq_some_iff] at h;obtain ⟨s1,h1,h2⟩:=h;obtain ⟨hne,rfl⟩:=stE_some h1;obtain ⟨k1,k2,k3,k4,k5⟩:=fM_some h2;refine ⟨List.nodup_cons.2 ⟨fun hh=>k2 e hh (ins_mem.2 (.inl rfl)),k1⟩,fun x hx => ?_,fun x => ?_,fun hs=>k4 (ins_srt hs),?_⟩
  ·rcases List.mem_cons.1 hx with rfl|hx
   ·exact hne
   ·exact fun hh=>k2 x hx (ins_mem.2 (.inr hh))
  ·rw [k3,ins_mem,List.mem_cons];constructor
   ·rintro ((h|h)|h)
    ·exact .inr (.inl h)
    ·exact .inl h
    ·exact .inr (.inr h)
   ·rintro (h|h|h)
    ·exact .inl (.inr h)
    ·exact .inl (.inl h)
    ·exact .inr h
  ·have:=ins_len s e;simp only [List.length_cons];omega
theorem fM_ok:∀{A s:List Ed},A.Nodup->(∀x,x∈A->x∉s)->∃s',fM stE s A=some s'
 | [],s,_,_=>⟨s,rfl⟩
 | e::A,s,h,h'=>by
  have hn:=List.nodup_cons.1 h;have h1:stE s e=some (ins s e):=by unfold stE;rw [if_neg (h' e (by simp))]
  obtain ⟨s',hs⟩:=fM_ok (A:=A) (s:=ins s e) hn.2 fun x hx hh=>by
   rcases ins_mem.1 hh with rfl|hh
   ·exact hn.1 hx
   ·exact h' x (by simp [hx]) hh
  exact ⟨s',by simp only [fM,h1,Option.bind_some];exact hs⟩
theorem fM_perm {A B:List Ed} (h:A.Perm B):fM stE [] A=fM stE [] B:=by
 cases hA:fM stE [] A with
 | some s=>
  obtain ⟨k1,k2,k3,k4,_⟩:=fM_some hA;obtain ⟨s',hs⟩:=fM_ok (A:=B) (s:=[]) (h.nodup_iff.1 k1) (by simp);obtain ⟨_,_,m3,m4,_⟩:=fM_some hs;rw [hs,srt_eq (k4 List.Pairwise.nil) (m4 List.Pairwise.nil) fun x=>by rw [k3,m3,h.mem_iff]]
 | none=>
  cases hB:fM stE [] B with
  | none=>rfl
  | some s=>
   obtain ⟨k1,_⟩:=fM_some hB;obtain ⟨s',hs⟩:=fM_ok (A:=A) (s:=[]) (h.nodup_iff.2 k1) (by simp);rw [hs] at hA;cases hA
def resW (o:Option (List Ed)):List Ed × Bool:=match o with
 | some s=>(s,true)
 | none=>([],false)
theorem resW_len {A:List Ed}:(resW (fM stE [] A)).1.length<=A.length:=by
 cases h:fM stE [] A with
 | none=>simp [resW]
 | some s=>have:=(fM_some h).2.2.2.2;simpa [resW] using this
abbrev LL:=List (List (Int × Int))
theorem flat_take {a:LL} {i:Nat} {y:List Ed} (hy:a[i]?=some y):(a.take (i+1)).flatten.length=(a.take i).flatten.length+y.length:=by
 have hi:=(List.getElem?_eq_some_iff.1 hy).1;have hv:=(List.getElem?_eq_some_iff.1 hy).2;rw [List.take_succ_eq_append_getElem hi,List.flatten_append,List.length_append,hv];simp
theorem flat_take_le (a:LL) (i:Nat):(a.take i).flatten.length<=a.flatten.length:=by
 have:=congrArg List.length (congrArg List.flatten (List.take_append_drop i a));rw [List.flatten_append,List.length_append] at this;omega
theorem h_sWholeEdges (a:LL) (c:List Ed) (hl:a.length<=1048576) (ht:c.length+a.flatten.length<=2000000):g_sWholeEdges (a,c)=some (resW (fM stE [] (c++a.flatten)),()):=by
 have hm:maxLen=9223372036854775807:=by decide
 show f_sWholeEdges BIG _=_;have hc0:=Nat.le_trans (Nat.le_add_right c.length a.flatten.length) ht;rw [e_sWholeEdges];rw [decide_eq_true (by first|omega | (simp;omega)),cond_true,foldLoop a (by omega) (fun i (s:List Ed)=>s.length=c.length+(a.take i).flatten.length) (fun s y=>s++y) id (by simp) (fun i s y hy (h:s.length=_)=>by rw [List.length_append,h,flat_take hy];omega)]
 ·have hf:∀(l:LL) (s:List Ed),l.foldl (fun s y=>s++y) s=s++l.flatten:=by
   intro l;induction l with
   | nil=>intro s;simp
   | cons y l ih=>intro s;rw [List.foldl_cons,ih,List.flatten_cons,List.append_assoc]
  simp only [hf,id,List.nil_append,Option.bind_some];generalize hx:c++a.flatten=x;have hxl:x.length<=2000000:=by rw [<-hx,List.length_append];exact ht
  rw [exitLoop x (by omega) (fun i (s:List Ed)=>s.length<=i) stE (([],false):List Ed × Bool) (by simp) (fun i s y s' hy (h:s.length<=i) hs=>by
   obtain ⟨_,rfl⟩:=stE_some hs
   have:=ins_len s y
   show _<=_
   omega)]
  ·cases fM stE [] x<;>rfl
  ·intro self s i y hy (hs:s.length<=i);have hi:=(List.getElem?_eq_some_iff.1 hy).1;simp only [show ((i:Int)<(x.length:Int)) from by omega,decide_true,cond_true];simp only [bnd_nat hi,hy,Option.bind_some,h_sl05Has s y (by omega),h_sl05Put s y (by omega),wr1 (show i<maxLen from by omega)];unfold stE;by_cases h:y∈s<;>simp [h]
  ·intro self s hs;simp
 ·intro self s i y hy (hs:s.length=_);have hi:=(List.getElem?_eq_some_iff.1 hy).1;have h1:=flat_take hy;have h2:=flat_take_le a (i+1);simp only [show ((i:Int)<(a.length:Int)) from by omega,decide_true,cond_true];rw [bnd_nat hi,hy,Option.bind_some,decide_eq_true (by omega),cond_true,wr1 (by omega)]
 ·intro self s hs;simp
theorem h_iWholeEdges (a:LL) (c:List Ed) (hl:a.length<=1048576) (ht:c.length+a.flatten.length<=2000000):g_iWholeEdges (a,c)=some (resW (fM stE [] (c++a.flatten)),()):=by
 have hm:maxLen=9223372036854775807:=by decide
 have hp:fM stE [] (c++a.flatten)=fM stE [] (a++[c]).flatten:=by
  refine fM_perm ?_;rw [List.flatten_append];simp only [List.flatten_cons,List.flatten_nil,List.append_nil];exact List.perm_append_comm
 rw [hp];have htt:(a++[c]).flatten.length<=2000000:=by rw [List.flatten_append,List.length_append];simp only [List.flatten_cons,List.flatten_nil,List.append_nil];omega
 have hll:(a++[c]).length<=1048577:=by simp;omega
 show f_iWholeEdges BIG _=_;rw [e_iWholeEdges,decide_eq_true (by omega),cond_true,decide_eq_true (by simp;omega),cond_true];generalize a++[c]=b at *
 rw [exitLoop b (by omega) (fun i (s:List Ed)=>s.length<=(b.take i).flatten.length/\Srt s) (fun s y=>fM stE s y) (([],false):List Ed × Bool) ⟨by simp,List.Pairwise.nil⟩ (fun i s y s' hy h hs=>by
   obtain ⟨_,_,_,h4,h5⟩:=fM_some hs
   exact ⟨by rw [flat_take hy];have:=h.1;omega,h4 h.2⟩)]
 ·rw [<-fM_flat];cases fM stE [] b.flatten<;>rfl
 ·intro self s i y hy ⟨hs,hsrt⟩;have hi:=(List.getElem?_eq_some_iff.1 hy).1;have h1:=flat_take hy;have h2:=flat_take_le b (i+1);simp only [show ((i:Int)<(b.length:Int)) from by omega,decide_true,cond_true];rw [bnd_nat hi,hy,Option.bind_some,wr1 (by omega),exitLoop y (by omega) (fun k (u:List Ed)=>u.length<=s.length+k/\Srt u) stE (([],false):List Ed × Bool) ⟨by simp,hsrt⟩ (fun k u z u' hz h hu=>by
   obtain ⟨_,rfl⟩:=stE_some hu
   have:=ins_len u z
   exact ⟨by have:=h.1;omega,ins_srt h.2⟩)]
  ·cases fM stE s y<;>rfl
  ·intro self2 u k z hz ⟨hu,husrt⟩;have hk:=(List.getElem?_eq_some_iff.1 hz).1;simp only [show ((k:Int)<(y.length:Int)) from by omega,decide_true,cond_true];rw [bnd_nat hk,hz,Option.bind_some,wr1 (by omega)];simp only [h_ihasEdge u z (by omega),h_iwithEdge u z (by omega),Option.bind_some];unfold stE;by_cases h:z∈u
   ·simp [h]
   ·rw [decide_eq_false h,cond_false,if_neg h,fdI_ins husrt h]
  ·intro self2 u hu;simp
 ·intro self s hs;simp
theorem h_sHasEdge (n:Int) (es:List Ed) (e:Ed) (hl:es.length<=maxLen):g_sHasEdge ((n,es),e)=some (decide (e∈es),()):=by
 show f_sHasEdge BIG _=_;rw [e_sHasEdge,h_sl05Has _ _ hl];rfl
theorem h_iHasEdge (n:Int) (es:List Ed) (e:Ed) (hl:es.length<=maxLen):g_iHasEdge ((n,es),e)=some (decide (e∈es),()):=by
 show f_iHasEdge BIG _=_;rw [e_iHasEdge,h_ihasEdge _ _ hl];rfl
def del (es:List Ed) (e:Ed):List Ed:=es.filter (fun y=>!decide (y=e))
theorem del_len (es:List Ed) (e:Ed):(del es e).length<=es.length:=List.length_filter_le _ _
theorem to_Ask (x0:Int) (x1:Int) (x2:Int) (x3:Int):g_ltoAsk (x0,x1,x2,x3)=some ((x0,x1,x2,x3),()):=e_ltoAsk BIG _
theorem eq_Ask (x0:Int) (x1:Int) (x2:Int) (x3:Int) (y0:Int) (y1:Int) (y2:Int) (y3:Int):g_leqAsk ((x0,x1,x2,x3),(y0,y1,y2,y3))=some (decide ((x0,x1,x2,x3)=(y0,y1,y2,y3)),()):=by
 show f_leqAsk BIG _=_;rw [e_leqAsk];dsimp only;by_cases c0:x0=y0;case neg=>
  simp [c0]
 rw [decide_eq_true c0,Bool.not_true,cond_false];by_cases c1:x1=y1;case neg=>
  simp [c1]
 rw [decide_eq_true c1,Bool.not_true,cond_false];by_cases c2:x2=y2;case neg=>
  simp [c2]
 rw [decide_eq_true c2,Bool.not_true,cond_false];by_cases c3:x3=y3;case neg=>
  simp [c3]
 rw [decide_eq_true c3,Bool.not_true,cond_false];rw [decide_eq_true (by simp_all)]
theorem to_Edge (x0:Int) (x1:Int):g_ltoEdge (x0,x1)=some ((x0,x1),()):=e_ltoEdge BIG _
theorem eq_Edge (x0:Int) (x1:Int) (y0:Int) (y1:Int):g_leqEdge ((x0,x1),(y0,y1))=some (decide ((x0,x1)=(y0,y1)),()):=by
 show f_leqEdge BIG _=_;rw [e_leqEdge];dsimp only;by_cases c0:x0=y0;case neg=>
  simp [c0]
 rw [decide_eq_true c0,Bool.not_true,cond_false];by_cases c1:x1=y1;case neg=>
  simp [c1]
 rw [decide_eq_true c1,Bool.not_true,cond_false];rw [decide_eq_true (by simp_all)]
theorem to_Ledge (x0:Int) (x1:Int) (x2:Int) (x3:Bool):g_ltoLedge (x0,x1,x2,x3)=some ((x0,x1,x2,x3),()):=e_ltoLedge BIG _
theorem eq_Ledge (x0:Int) (x1:Int) (x2:Int) (x3:Bool) (y0:Int) (y1:Int) (y2:Int) (y3:Bool):g_leqLedge ((x0,x1,x2,x3),(y0,y1,y2,y3))=some (decide ((x0,x1,x2,x3)=(y0,y1,y2,y3)),()):=by
 show f_leqLedge BIG _=_;rw [e_leqLedge];dsimp only;by_cases c0:x0=y0;case neg=>
  simp [c0]
 rw [decide_eq_true c0,Bool.not_true,cond_false];by_cases c1:x1=y1;case neg=>
  simp [c1]
 rw [decide_eq_true c1,Bool.not_true,cond_false];by_cases c2:x2=y2;case neg=>
  simp [c2]
 rw [decide_eq_true c2,Bool.not_true,cond_false];by_cases c3:x3=y3;case neg=>
  rw [show (x3 == y3)=false from by simp [c3]];simp [c3]
 rw [show (x3 == y3)=true from by simp [c3],Bool.not_true,cond_false];rw [decide_eq_true (by simp_all)]
theorem to_Said (x0 x1 x2 x3 x4 x5:Int):g_ltoSaid (x0,x1,x2,x3,x4,x5)=some ((x0,x1,x2,x3,x4,x5),()):=by
 show f_ltoSaid BIG _=_;rw [e_ltoSaid];dsimp only;rw [to_Ask,Option.bind_some]
theorem eq_Said (x0 x1 x2 x3 x4 x5 y0 y1 y2 y3 y4 y5:Int):g_leqSaid ((x0,x1,x2,x3,x4,x5),(y0,y1,y2,y3,y4,y5))=some (decide ((x0,x1,x2,x3,x4,x5)=(y0,y1,y2,y3,y4,y5)),()):=by
 show f_leqSaid BIG _=_;rw [e_leqSaid];dsimp only;by_cases c0:x0=y0;case neg=>
  simp [c0]
 rw [decide_eq_true c0,Bool.not_true,cond_false,eq_Ask,Option.bind_some];by_cases c1:(x1,x2,x3,x4)=(y1,y2,y3,y4)
 case neg=>
  rw [decide_eq_false c1,Bool.not_false,cond_true,decide_eq_false];intro h;apply c1;simp_all
 rw [decide_eq_true c1,Bool.not_true,cond_false];by_cases c2:x5=y5;case neg=>
  simp [c2]
 rw [decide_eq_true c2,Bool.not_true,cond_false];rw [decide_eq_true (by simp_all)]
theorem sz_IntS (a:List (Int)) (l:Int) (h0:0<=l) (h1:l<=1048576) (ha:a.length<=maxLen):g_lszIntS (a,l)=some (if ((a.length:Nat):Int)<=l then l-(a.length:Nat) else -1,()):=by
 have hm:maxLen=9223372036854775807:=by decide
 show f_lszIntS BIG _=_;rw [e_lszIntS,wr (by omega) (by omega)];by_cases h:((a.length:Nat):Int)<=l
 ·rw [if_pos h,decide_eq_false (by omega),cond_false]
 ·rw [if_neg h,decide_eq_true (by omega),cond_true]
theorem to_IntS (a:List (Int)) (h:a.length<=1048576):g_ltoIntS a=some (a,()):=by
 have hm:maxLen=9223372036854775807:=by decide
 show f_ltoIntS BIG _=_;rw [e_ltoIntS,decide_eq_true (by omega),cond_true,decide_eq_true (by simp;omega),cond_true];simp only [Int.toNat_natCast];rw [cpLoop a (by omega)]
 ·rfl
 ·intro self out i y hl hy;have hi:=(List.getElem?_eq_some_iff.1 hy).1;simp only [show ((i:Int)<(a.length:Int)) from by omega,decide_true,cond_true];rw [bnd_nat hi,hy,Option.bind_some];rw [bnd_nat (by omega),List.getElem?_eq_getElem (by omega),Option.bind_some,wr1 (by omega)]
 ·intro self out hl;simp
theorem eq_IntS (a b:List (Int)) (h:a.length<=4294967296):g_leqIntS (a,b)=some (decide (a=b),()):=by
 have hm:maxLen=9223372036854775807:=by decide
 show f_leqIntS BIG _=_;rw [e_leqIntS];by_cases hl:a.length=b.length
 ·rw [decide_eq_true (by omega),Bool.not_true,cond_false,eqLoop a b (by omega) hl false]
  ·by_cases h:a=b<;>simp [h]
  ·intro self i x y hx hy;have hi:=(List.getElem?_eq_some_iff.1 hx).1;simp only [show ((i:Int)<(a.length:Int)) from by omega,decide_true,cond_true];rw [bnd_nat hi,hx,Option.bind_some,bnd_nat (by omega),hy,Option.bind_some];rw [wr1 (by omega)];by_cases h:x=y<;>simp [h]
  ·intro self;simp
 ·rw [decide_eq_false (by omega),Bool.not_false,cond_true,decide_eq_false (fun h=>hl (by rw [h]))]
theorem sz_EdgeS (a:List (Int × Int)) (l:Int) (h0:0<=l) (h1:l<=1048576) (ha:a.length<=maxLen):g_lszEdgeS (a,l)=some (if ((a.length:Nat):Int)<=l then l-(a.length:Nat) else -1,()):=by
 have hm:maxLen=9223372036854775807:=by decide
 show f_lszEdgeS BIG _=_;rw [e_lszEdgeS,wr (by omega) (by omega)];by_cases h:((a.length:Nat):Int)<=l
 ·rw [if_pos h,decide_eq_false (by omega),cond_false]
 ·rw [if_neg h,decide_eq_true (by omega),cond_true]
theorem to_EdgeS (a:List (Int × Int)) (h:a.length<=1048576):g_ltoEdgeS a=some (a,()):=by
 have hm:maxLen=9223372036854775807:=by decide
 show f_ltoEdgeS BIG _=_;rw [e_ltoEdgeS,decide_eq_true (by omega),cond_true,decide_eq_true (by simp;omega),cond_true];simp only [Int.toNat_natCast];rw [cpLoop a (by omega)]
 ·rfl
 ·intro self out i y hl hy;have hi:=(List.getElem?_eq_some_iff.1 hy).1;simp only [show ((i:Int)<(a.length:Int)) from by omega,decide_true,cond_true];rw [bnd_nat hi,hy,Option.bind_some];rw [to_Edge _ _,Option.bind_some];rw [bnd_nat (by omega),List.getElem?_eq_getElem (by omega),Option.bind_some,wr1 (by omega)]
 ·intro self out hl;simp
theorem eq_EdgeS (a b:List (Int × Int)) (h:a.length<=4294967296):g_leqEdgeS (a,b)=some (decide (a=b),()):=by
 have hm:maxLen=9223372036854775807:=by decide
 show f_leqEdgeS BIG _=_;rw [e_leqEdgeS];by_cases hl:a.length=b.length
 ·rw [decide_eq_true (by omega),Bool.not_true,cond_false,eqLoop a b (by omega) hl false]
  ·by_cases h:a=b<;>simp [h]
  ·intro self i x y hx hy;have hi:=(List.getElem?_eq_some_iff.1 hx).1;simp only [show ((i:Int)<(a.length:Int)) from by omega,decide_true,cond_true];rw [bnd_nat hi,hx,Option.bind_some,bnd_nat (by omega),hy,Option.bind_some];rw [wr1 (by omega)];rw [eq_Edge _ _ _ _,Option.bind_some];by_cases h:x=y<;>simp [h]
  ·intro self;simp
 ·rw [decide_eq_false (by omega),Bool.not_false,cond_true,decide_eq_false (fun h=>hl (by rw [h]))]
theorem sz_LedgeS (a:List (Int × Int × Int × Bool)) (l:Int) (h0:0<=l) (h1:l<=1048576) (ha:a.length<=maxLen):g_lszLedgeS (a,l)=some (if ((a.length:Nat):Int)<=l then l-(a.length:Nat) else -1,()):=by
 have hm:maxLen=9223372036854775807:=by decide
 show f_lszLedgeS BIG _=_;rw [e_lszLedgeS,wr (by omega) (by omega)];by_cases h:((a.length:Nat):Int)<=l
 ·rw [if_pos h,decide_eq_false (by omega),cond_false]
 ·rw [if_neg h,decide_eq_true (by omega),cond_true]
theorem to_LedgeS (a:List (Int × Int × Int × Bool)) (h:a.length<=1048576):g_ltoLedgeS a=some (a,()):=by
 have hm:maxLen=9223372036854775807:=by decide
 show f_ltoLedgeS BIG _=_;rw [e_ltoLedgeS,decide_eq_true (by omega),cond_true,decide_eq_true (by simp;omega),cond_true];simp only [Int.toNat_natCast];rw [cpLoop a (by omega)]
 ·rfl
 ·intro self out i y hl hy;have hi:=(List.getElem?_eq_some_iff.1 hy).1;simp only [show ((i:Int)<(a.length:Int)) from by omega,decide_true,cond_true];rw [bnd_nat hi,hy,Option.bind_some];rw [to_Ledge _ _ _ _,Option.bind_some];rw [bnd_nat (by omega),List.getElem?_eq_getElem (by omega),Option.bind_some,wr1 (by omega)]
 ·intro self out hl;simp
theorem eq_LedgeS (a b:List (Int × Int × Int × Bool)) (h:a.length<=4294967296):g_leqLedgeS (a,b)=some (decide (a=b),()):=by
 have hm:maxLen=9223372036854775807:=by decide
 show f_leqLedgeS BIG _=_;rw [e_leqLedgeS];by_cases hl:a.length=b.length
 ·rw [decide_eq_true (by omega),Bool.not_true,cond_false,eqLoop a b (by omega) hl false]
  ·by_cases h:a=b<;>simp [h]
  ·intro self i x y hx hy;have hi:=(List.getElem?_eq_some_iff.1 hx).1;simp only [show ((i:Int)<(a.length:Int)) from by omega,decide_true,cond_true];rw [bnd_nat hi,hx,Option.bind_some,bnd_nat (by omega),hy,Option.bind_some];rw [wr1 (by omega)];rw [eq_Ledge _ _ _ _ _ _ _ _,Option.bind_some];by_cases h:x=y<;>simp [h]
  ·intro self;simp
 ·rw [decide_eq_false (by omega),Bool.not_false,cond_true,decide_eq_false (fun h=>hl (by rw [h]))]
theorem sz_SaidS (a:List (Int × Int × Int × Int × Int × Int)) (l:Int) (h0:0<=l) (h1:l<=1048576) (ha:a.length<=maxLen):g_lszSaidS (a,l)=some (if ((a.length:Nat):Int)<=l then l-(a.length:Nat) else -1,()):=by
 have hm:maxLen=9223372036854775807:=by decide
 show f_lszSaidS BIG _=_;rw [e_lszSaidS,wr (by omega) (by omega)];by_cases h:((a.length:Nat):Int)<=l
 ·rw [if_pos h,decide_eq_false (by omega),cond_false]
 ·rw [if_neg h,decide_eq_true (by omega),cond_true]
theorem to_SaidS (a:List (Int × Int × Int × Int × Int × Int)) (h:a.length<=1048576):g_ltoSaidS a=some (a,()):=by
 have hm:maxLen=9223372036854775807:=by decide
 show f_ltoSaidS BIG _=_;rw [e_ltoSaidS,decide_eq_true (by omega),cond_true,decide_eq_true (by simp;omega),cond_true];simp only [Int.toNat_natCast];rw [cpLoop a (by omega)]
 ·rfl
 ·intro self out i y hl hy;have hi:=(List.getElem?_eq_some_iff.1 hy).1;simp only [show ((i:Int)<(a.length:Int)) from by omega,decide_true,cond_true];rw [bnd_nat hi,hy,Option.bind_some];rw [to_Said _ _ _ _ _ _,Option.bind_some];rw [bnd_nat (by omega),List.getElem?_eq_getElem (by omega),Option.bind_some,wr1 (by omega)]
 ·intro self out hl;simp
theorem eq_SaidS (a b:List (Int × Int × Int × Int × Int × Int)) (h:a.length<=4294967296):g_leqSaidS (a,b)=some (decide (a=b),()):=by
 have hm:maxLen=9223372036854775807:=by decide
 show f_leqSaidS BIG _=_;rw [e_leqSaidS];by_cases hl:a.length=b.length
 ·rw [decide_eq_true (by omega),Bool.not_true,cond_false,eqLoop a b (by omega) hl false]
  ·by_cases h:a=b<;>simp [h]
  ·intro self i x y hx hy;have hi:=(List.getElem?_eq_some_iff.1 hx).1;simp only [show ((i:Int)<(a.length:Int)) from by omega,decide_true,cond_true];rw [bnd_nat hi,hx,Option.bind_some,bnd_nat (by omega),hy,Option.bind_some];rw [wr1 (by omega)];rw [eq_Said _ _ _ _ _ _ _ _ _ _ _ _,Option.bind_some];by_cases h:x=y<;>simp [h]
  ·intro self;simp
 ·rw [decide_eq_false (by omega),Bool.not_false,cond_true,decide_eq_false (fun h=>hl (by rw [h]))]
def z_IntSS (a:List (List (Int))):Nat:=a.length+(a.map fun y=>y.length).sum
abbrev B_IntSS (a:List (List (Int))):Prop:=a.length<=maxLen/\∀y,y∈a->y.length<=maxLen
theorem z_IntSS_mem {a:List (List (Int))} {y:List (Int)} (h:y∈a):y.length<=z_IntSS a:=by
 have:∀a:List (List (Int)),y∈a->y.length<=(a.map fun y=>y.length).sum:=by
  intro a;induction a with
  | nil=>intro h;cases h
  | cons x a ih=>
   intro h;rw [List.map_cons,List.sum_cons];rcases List.mem_cons.1 h with rfl|h
   ·omega
   ·have:=ih h;omega
 have:=this a h;unfold z_IntSS;omega
theorem sz_IntSS (a:List (List (Int))) (l:Int) (h0:0<=l) (h1:l<=1048576) (ha:B_IntSS a):g_lszIntSS (a,l)=some (if ((z_IntSS a:Nat):Int)<=l then l-(z_IntSS a:Nat) else -1,()):=by
 have hm:maxLen=9223372036854775807:=by decide
 have ha1:=ha.1;show f_lszIntSS BIG _=_;rw [e_lszIntSS,wr (by omega) (by omega)];by_cases h:((a.length:Nat):Int)<=l;case neg=>
  rw [decide_eq_true (by omega),cond_true,if_neg (by unfold z_IntSS;omega)]
 rw [decide_eq_false (by omega),cond_false,szLoop a (fun y=>y.length) (-1) (l-(a.length:Nat)) (by omega) (by omega) (by omega)]
 ·unfold z_IntSS;by_cases c:(((a.map fun y=>y.length).sum:Nat):Int)<=l-(a.length:Nat)
  ·rw [if_pos c,if_pos (by omega)];simp only [Option.bind_some];congr 2;omega
  ·rw [if_neg c,if_neg (by omega)];rfl
 ·intro self i l y hy h0 h1;have hi:=(List.getElem?_eq_some_iff.1 hy).1;simp only [show ((i:Int)<(a.length:Int)) from by omega,decide_true,cond_true];rw [bnd_nat hi,hy,Option.bind_some,sz_IntS y l h0 h1 (ha.2 y (List.mem_of_getElem? hy)),Option.bind_some];by_cases c:((y.length:Nat):Int)<=l
  ·rw [if_pos c,if_pos c,decide_eq_false (by omega),cond_false,wr1 (by omega)]
  ·rw [if_neg c,if_neg c,decide_eq_true (by omega),cond_true]
 ·intro self l;simp
theorem to_IntSS (a:List (List (Int))) (h:z_IntSS a<=1048576):g_ltoIntSS a=some (a,()):=by
 have hm:maxLen=9223372036854775807:=by decide
 have h1:a.length<=1048576:=by unfold z_IntSS at h;omega
 show f_ltoIntSS BIG _=_;rw [e_ltoIntSS,decide_eq_true (by omega),cond_true,decide_eq_true (by simp;omega),cond_true];simp only [Int.toNat_natCast];rw [cpLoop a (by omega)]
 ·rfl
 ·intro self out i y hl hy;have hi:=(List.getElem?_eq_some_iff.1 hy).1;have hz:=z_IntSS_mem (List.mem_of_getElem? hy);simp only [show ((i:Int)<(a.length:Int)) from by omega,decide_true,cond_true];rw [bnd_nat hi,hy,Option.bind_some,to_IntS y (by omega),Option.bind_some,bnd_nat (by omega),List.getElem?_eq_getElem (by omega),Option.bind_some,wr1 (by omega)]
 ·intro self out hl;simp
theorem eq_IntSS (a b:List (List (Int))) (h:z_IntSS a<=4294967296):g_leqIntSS (a,b)=some (decide (a=b),()):=by
 have hm:maxLen=9223372036854775807:=by decide
 have h1:a.length<=4294967296:=by unfold z_IntSS at h;omega
 show f_leqIntSS BIG _=_;rw [e_leqIntSS];by_cases hl:a.length=b.length
 ·rw [decide_eq_true (by omega),Bool.not_true,cond_false,eqLoop a b (by omega) hl false]
  ·by_cases h:a=b<;>simp [h]
  ·intro self i x y hx hy;have hi:=(List.getElem?_eq_some_iff.1 hx).1;have hz:=z_IntSS_mem (List.mem_of_getElem? hx);simp only [show ((i:Int)<(a.length:Int)) from by omega,decide_true,cond_true];rw [bnd_nat hi,hx,Option.bind_some,bnd_nat (by omega),hy,Option.bind_some,eq_IntS x y (by omega),Option.bind_some,wr1 (by omega)];by_cases h:x=y<;>simp [h]
  ·intro self;simp
 ·rw [decide_eq_false (by omega),Bool.not_false,cond_true,decide_eq_false (fun h=>hl (by rw [h]))]
theorem sz_Web (x0:Int) (x1:List (Int × Int × Int × Bool)) (l:Int) (h0:0<=l) (h1:l<=1048576) (q1:x1.length<=maxLen):g_lszWeb ((x0,x1),l)=some (if (((x1.length):Nat):Int)<=l then l-((x1.length):Nat) else -1,()):=by
 show f_lszWeb BIG _=_;rw [e_lszWeb];dsimp only;have s0:=sz_LedgeS x1 (l) (by omega) (by omega) q1;by_cases c0:(((x1.length):Nat):Int)<=l;case neg=>
  rw [if_neg c0] at s0;rw [s0,Option.bind_some,if_neg (by omega)];all_goals rfl
 rw [if_pos c0] at s0;rw [s0,Option.bind_some];dsimp only;rw [decide_eq_false (by omega),cond_false];rw [if_pos (by omega)];all_goals first|rfl | (congr 2;done) | (congr 2;omega)
theorem to_Web (x0:Int) (x1:List (Int × Int × Int × Bool)) (h:(x1.length)<=1048576):g_ltoWeb (x0,x1)=some ((x0,x1),()):=by
 show f_ltoWeb BIG _=_;rw [e_ltoWeb];dsimp only;rw [to_LedgeS x1 (by omega),Option.bind_some]
theorem eq_Web (x0:Int) (x1:List (Int × Int × Int × Bool)) (h:(x1.length)<=4294967296):g_leqWeb ((x0,x1),(x0,x1))=some (true,()):=by
 show f_leqWeb BIG _=_;rw [e_leqWeb];dsimp only;rw [decide_eq_true rfl,Bool.not_true,cond_false];rw [eq_LedgeS x1 x1 (by omega),Option.bind_some];rw [decide_eq_true rfl,Bool.not_true,cond_false]
theorem sz_Answer (x0:Int) (x1:Bool) (x2:List (Int × Int)) (x3:List (Int)) (l:Int) (h0:0<=l) (h1:l<=1048576) (q2:x2.length<=maxLen) (q3:x3.length<=maxLen):g_lszAnswer ((x0,x1,x2,x3),l)=some (if (((x2.length+x3.length):Nat):Int)<=l then l-((x2.length+x3.length):Nat) else -1,()):=by
 show f_lszAnswer BIG _=_;rw [e_lszAnswer];dsimp only;have s0:=sz_EdgeS x2 (l) (by omega) (by omega) q2;by_cases c0:(((x2.length):Nat):Int)<=l;case neg=>
  rw [if_neg c0] at s0;rw [s0,Option.bind_some,if_neg (by omega)];all_goals rfl
 rw [if_pos c0] at s0;rw [s0,Option.bind_some];dsimp only;rw [decide_eq_false (by omega),cond_false];have s1:=sz_IntS x3 (l-((x2.length):Nat)) (by omega) (by omega) q3;by_cases c1:(((x3.length):Nat):Int)<=l-((x2.length):Nat)
 case neg=>
  rw [if_neg c1] at s1;rw [s1,Option.bind_some,if_neg (by omega)];all_goals rfl
 rw [if_pos c1] at s1;rw [s1,Option.bind_some];dsimp only;rw [decide_eq_false (by omega),cond_false];rw [if_pos (by omega)];all_goals first|rfl | (congr 2;done) | (congr 2;omega)
theorem to_Answer (x0:Int) (x1:Bool) (x2:List (Int × Int)) (x3:List (Int)) (h:(x2.length+x3.length)<=1048576):g_ltoAnswer (x0,x1,x2,x3)=some ((x0,x1,x2,x3),()):=by
 show f_ltoAnswer BIG _=_;rw [e_ltoAnswer];dsimp only;rw [to_EdgeS x2 (by omega),Option.bind_some];rw [to_IntS x3 (by omega),Option.bind_some]
theorem eq_Answer (x0:Int) (x1:Bool) (x2:List (Int × Int)) (x3:List (Int)) (h:(x2.length+x3.length)<=4294967296):g_leqAnswer ((x0,x1,x2,x3),(x0,x1,x2,x3))=some (true,()):=by
 show f_leqAnswer BIG _=_;rw [e_leqAnswer];dsimp only;rw [decide_eq_true rfl,Bool.not_true,cond_false];rw [beq_self_eq_true,Bool.not_true,cond_false];rw [eq_EdgeS x2 x2 (by omega),Option.bind_some];rw [decide_eq_true rfl,Bool.not_true,cond_false];rw [eq_IntS x3 x3 (by omega),Option.bind_some];rw [decide_eq_true rfl,Bool.not_true,cond_false]
theorem sz_Order (x0:Int) (x1:Int) (x2:List (Int × Int)) (x3:Int) (l:Int) (h0:0<=l) (h1:l<=1048576) (q2:x2.length<=maxLen):g_lszOrder ((x0,x1,x2,x3),l)=some (if (((x2.length):Nat):Int)<=l then l-((x2.length):Nat) else -1,()):=by
 show f_lszOrder BIG _=_;rw [e_lszOrder];dsimp only;have s0:=sz_EdgeS x2 (l) (by omega) (by omega) q2;by_cases c0:(((x2.length):Nat):Int)<=l;case neg=>
  rw [if_neg c0] at s0;rw [s0,Option.bind_some,if_neg (by omega)];all_goals rfl
 rw [if_pos c0] at s0;rw [s0,Option.bind_some];dsimp only;rw [decide_eq_false (by omega),cond_false];rw [if_pos (by omega)];all_goals first|rfl | (congr 2;done) | (congr 2;omega)
theorem to_Order (x0:Int) (x1:Int) (x2:List (Int × Int)) (x3:Int) (h:(x2.length)<=1048576):g_ltoOrder (x0,x1,x2,x3)=some ((x0,x1,x2,x3),()):=by
 show f_ltoOrder BIG _=_;rw [e_ltoOrder];dsimp only;rw [to_EdgeS x2 (by omega),Option.bind_some]
theorem eq_Order (x0:Int) (x1:Int) (x2:List (Int × Int)) (x3:Int) (h:(x2.length)<=4294967296):g_leqOrder ((x0,x1,x2,x3),(x0,x1,x2,x3))=some (true,()):=by
 show f_leqOrder BIG _=_;rw [e_leqOrder];dsimp only;rw [decide_eq_true rfl,Bool.not_true,cond_false];rw [decide_eq_true rfl,Bool.not_true,cond_false];rw [eq_EdgeS x2 x2 (by omega),Option.bind_some];rw [decide_eq_true rfl,Bool.not_true,cond_false];rw [decide_eq_true rfl,Bool.not_true,cond_false]
theorem sz_Shard (x0:Int) (x1:Int) (x2:List (Int × Int × Int × Bool)) (x3:Int) (x4:Bool) (x5:List (Int × Int)) (x6:List (Int)) (l:Int) (h0:0<=l) (h1:l<=1048576) (q2:x2.length<=maxLen) (q5:x5.length<=maxLen) (q6:x6.length<=maxLen):g_lszShard ((x0,x1,x2,x3,x4,x5,x6),l)=some (if (((x2.length+x5.length+x6.length):Nat):Int)<=l then l-((x2.length+x5.length+x6.length):Nat) else -1,()):=by
 show f_lszShard BIG _=_;rw [e_lszShard];dsimp only;have s0:=sz_Web x1 x2 (l) (by omega) (by omega) q2;by_cases c0:(((x2.length):Nat):Int)<=l;case neg=>
  rw [if_neg c0] at s0;rw [s0,Option.bind_some,if_neg (by omega)];all_goals rfl
 rw [if_pos c0] at s0;rw [s0,Option.bind_some];dsimp only;rw [decide_eq_false (by omega),cond_false];have s1:=sz_Answer x3 x4 x5 x6 (l-((x2.length):Nat)) (by omega) (by omega) q5 q6;by_cases c1:(((x5.length+x6.length):Nat):Int)<=l-((x2.length):Nat)
 case neg=>
  rw [if_neg c1] at s1;rw [s1,Option.bind_some,if_neg (by omega)];all_goals rfl
 rw [if_pos c1] at s1;rw [s1,Option.bind_some];dsimp only;rw [decide_eq_false (by omega),cond_false];rw [if_pos (by omega)];all_goals first|rfl | (congr 2;done) | (congr 2;omega)
theorem to_Shard (x0:Int) (x1:Int) (x2:List (Int × Int × Int × Bool)) (x3:Int) (x4:Bool) (x5:List (Int × Int)) (x6:List (Int)) (h:(x2.length+x5.length+x6.length)<=1048576):g_ltoShard (x0,x1,x2,x3,x4,x5,x6)=some ((x0,x1,x2,x3,x4,x5,x6),()):=by
 show f_ltoShard BIG _=_;rw [e_ltoShard];dsimp only;rw [to_Web x1 x2 (by omega),Option.bind_some];rw [to_Answer x3 x4 x5 x6 (by omega),Option.bind_some]
theorem eq_Shard (x0:Int) (x1:Int) (x2:List (Int × Int × Int × Bool)) (x3:Int) (x4:Bool) (x5:List (Int × Int)) (x6:List (Int)) (h:(x2.length+x5.length+x6.length)<=4294967296):g_leqShard ((x0,x1,x2,x3,x4,x5,x6),(x0,x1,x2,x3,x4,x5,x6))=some (true,()):=by
 show f_leqShard BIG _=_;rw [e_leqShard];dsimp only;rw [decide_eq_true rfl,Bool.not_true,cond_false];rw [eq_Web x1 x2 (by omega),Option.bind_some];rw [Bool.not_true,cond_false];rw [eq_Answer x3 x4 x5 x6 (by omega),Option.bind_some];rw [Bool.not_true,cond_false]
theorem sz_Task (x0:Int) (x1:Int) (x2:Int) (x3:Int) (x4:Int) (x5:Int) (x6:Int) (x7:List (Int × Int)) (x8:Int) (l:Int) (h0:0<=l) (h1:l<=1048576) (q7:x7.length<=maxLen):g_lszTask ((x0,x1,x2,x3,x4,x5,x6,x7,x8),l)=some (if (((x7.length):Nat):Int)<=l then l-((x7.length):Nat) else -1,()):=by
 show f_lszTask BIG _=_;rw [e_lszTask];dsimp only;have s0:=sz_Order x5 x6 x7 x8 (l) (by omega) (by omega) q7;by_cases c0:(((x7.length):Nat):Int)<=l;case neg=>
  rw [if_neg c0] at s0;rw [s0,Option.bind_some,if_neg (by omega)];all_goals rfl
 rw [if_pos c0] at s0;rw [s0,Option.bind_some];dsimp only;rw [decide_eq_false (by omega),cond_false];rw [if_pos (by omega)];all_goals first|rfl | (congr 2;done) | (congr 2;omega)
theorem to_Task (x0:Int) (x1:Int) (x2:Int) (x3:Int) (x4:Int) (x5:Int) (x6:Int) (x7:List (Int × Int)) (x8:Int) (h:(x7.length)<=1048576):g_ltoTask (x0,x1,x2,x3,x4,x5,x6,x7,x8)=some ((x0,x1,x2,x3,x4,x5,x6,x7,x8),()):=by
 show f_ltoTask BIG _=_;rw [e_ltoTask];dsimp only;rw [to_Ask x0 x1 x2 x3,Option.bind_some];rw [to_Order x5 x6 x7 x8 (by omega),Option.bind_some]
theorem eq_Task (x0:Int) (x1:Int) (x2:Int) (x3:Int) (x4:Int) (x5:Int) (x6:Int) (x7:List (Int × Int)) (x8:Int) (h:(x7.length)<=4294967296):g_leqTask ((x0,x1,x2,x3,x4,x5,x6,x7,x8),(x0,x1,x2,x3,x4,x5,x6,x7,x8))=some (true,()):=by
 show f_leqTask BIG _=_;rw [e_leqTask];dsimp only;rw [eq_Ask,Option.bind_some];rw [decide_eq_true rfl,Bool.not_true,cond_false];rw [decide_eq_true rfl,Bool.not_true,cond_false];rw [eq_Order x5 x6 x7 x8 (by omega),Option.bind_some];rw [Bool.not_true,cond_false]
theorem sz_Head (x0:Int) (x1:List (Int)) (x2:List (Int × Int)) (x3:List (List (Int))) (x4:List (Int)) (x5:Int) (x6:Int) (x7:Int) (x8:Int) (x9:Int) (x10:Int) (x11:Int) (x12:List (Int × Int)) (x13:Int) (x14:List (Int × Int × Int × Int × Int × Int)) (l:Int) (h0:0<=l) (h1:l<=1048576) (q1:x1.length<=maxLen) (q2:x2.length<=maxLen) (q3:B_IntSS x3) (q4:x4.length<=maxLen) (q12:x12.length<=maxLen) (q14:x14.length<=maxLen):g_lszHead ((x0,x1,x2,x3,x4,x5,x6,x7,x8,x9,x10,x11,x12,x13,x14),l)=some (if (((x1.length+x2.length+z_IntSS x3+x4.length+x12.length+x14.length):Nat):Int)<=l then l-((x1.length+x2.length+z_IntSS x3+x4.length+x12.length+x14.length):Nat) else -1,()):=by
 show f_lszHead BIG _=_;rw [e_lszHead];dsimp only;have s0:=sz_IntS x1 (l) (by omega) (by omega) q1;by_cases c0:(((x1.length):Nat):Int)<=l;case neg=>
  rw [if_neg c0] at s0;rw [s0,Option.bind_some,if_neg (by omega)];all_goals rfl
 rw [if_pos c0] at s0;rw [s0,Option.bind_some];dsimp only;rw [decide_eq_false (by omega),cond_false];have s1:=sz_EdgeS x2 (l-((x1.length):Nat)) (by omega) (by omega) q2;by_cases c1:(((x2.length):Nat):Int)<=l-((x1.length):Nat)
 case neg=>
  rw [if_neg c1] at s1;rw [s1,Option.bind_some,if_neg (by omega)];all_goals rfl
 rw [if_pos c1] at s1;rw [s1,Option.bind_some];dsimp only;rw [decide_eq_false (by omega),cond_false];have s2:=sz_IntSS x3 (l-((x1.length):Nat)-((x2.length):Nat)) (by omega) (by omega) q3;by_cases c2:(((z_IntSS x3):Nat):Int)<=l-((x1.length):Nat)-((x2.length):Nat)
 case neg=>
  rw [if_neg c2] at s2;rw [s2,Option.bind_some,if_neg (by omega)];all_goals rfl
 rw [if_pos c2] at s2;rw [s2,Option.bind_some];dsimp only;rw [decide_eq_false (by omega),cond_false];have s3:=sz_IntS x4 (l-((x1.length):Nat)-((x2.length):Nat)-((z_IntSS x3):Nat)) (by omega) (by omega) q4;by_cases c3:(((x4.length):Nat):Int)<=l-((x1.length):Nat)-((x2.length):Nat)-((z_IntSS x3):Nat)
 case neg=>
  rw [if_neg c3] at s3;rw [s3,Option.bind_some,if_neg (by omega)];all_goals rfl
 rw [if_pos c3] at s3;rw [s3,Option.bind_some];dsimp only;rw [decide_eq_false (by omega),cond_false];have s4:=sz_Task x5 x6 x7 x8 x9 x10 x11 x12 x13 (l-((x1.length):Nat)-((x2.length):Nat)-((z_IntSS x3):Nat)-((x4.length):Nat)) (by omega) (by omega) q12;by_cases c4:(((x12.length):Nat):Int)<=l-((x1.length):Nat)-((x2.length):Nat)-((z_IntSS x3):Nat)-((x4.length):Nat)
 case neg=>
  rw [if_neg c4] at s4;rw [s4,Option.bind_some,if_neg (by omega)];all_goals rfl
 rw [if_pos c4] at s4;rw [s4,Option.bind_some];dsimp only;rw [decide_eq_false (by omega),cond_false];have s5:=sz_SaidS x14 (l-((x1.length):Nat)-((x2.length):Nat)-((z_IntSS x3):Nat)-((x4.length):Nat)-((x12.length):Nat)) (by omega) (by omega) q14;by_cases c5:(((x14.length):Nat):Int)<=l-((x1.length):Nat)-((x2.length):Nat)-((z_IntSS x3):Nat)-((x4.length):Nat)-((x12.length):Nat)
 case neg=>
  rw [if_neg c5] at s5;rw [s5,Option.bind_some,if_neg (by omega)];all_goals rfl
 rw [if_pos c5] at s5;rw [s5,Option.bind_some];dsimp only;rw [decide_eq_false (by omega),cond_false];rw [if_pos (by omega)];all_goals first|rfl | (congr 2;done) | (congr 2;omega)
theorem to_Head (x0:Int) (x1:List (Int)) (x2:List (Int × Int)) (x3:List (List (Int))) (x4:List (Int)) (x5:Int) (x6:Int) (x7:Int) (x8:Int) (x9:Int) (x10:Int) (x11:Int) (x12:List (Int × Int)) (x13:Int) (x14:List (Int × Int × Int × Int × Int × Int)) (h:(x1.length+x2.length+z_IntSS x3+x4.length+x12.length+x14.length)<=1048576):g_ltoHead (x0,x1,x2,x3,x4,x5,x6,x7,x8,x9,x10,x11,x12,x13,x14)=some ((x0,x1,x2,x3,x4,x5,x6,x7,x8,x9,x10,x11,x12,x13,x14),()):=by
 show f_ltoHead BIG _=_;rw [e_ltoHead];dsimp only;rw [to_IntS x1 (by omega),Option.bind_some];rw [to_EdgeS x2 (by omega),Option.bind_some];rw [to_IntSS x3 (by omega),Option.bind_some];rw [to_IntS x4 (by omega),Option.bind_some];rw [to_Task x5 x6 x7 x8 x9 x10 x11 x12 x13 (by omega),Option.bind_some];rw [to_SaidS x14 (by omega),Option.bind_some]
theorem eq_Head (x0:Int) (x1:List (Int)) (x2:List (Int × Int)) (x3:List (List (Int))) (x4:List (Int)) (x5:Int) (x6:Int) (x7:Int) (x8:Int) (x9:Int) (x10:Int) (x11:Int) (x12:List (Int × Int)) (x13:Int) (x14:List (Int × Int × Int × Int × Int × Int)) (h:(x1.length+x2.length+z_IntSS x3+x4.length+x12.length+x14.length)<=4294967296):g_leqHead ((x0,x1,x2,x3,x4,x5,x6,x7,x8,x9,x10,x11,x12,x13,x14),(x0,x1,x2,x3,x4,x5,x6,x7,x8,x9,x10,x11,x12,x13,x14))=some (true,()):=by
 show f_leqHead BIG _=_;rw [e_leqHead];dsimp only;rw [decide_eq_true rfl,Bool.not_true,cond_false];rw [eq_IntS x1 x1 (by omega),Option.bind_some];rw [decide_eq_true rfl,Bool.not_true,cond_false];rw [eq_EdgeS x2 x2 (by omega),Option.bind_some];rw [decide_eq_true rfl,Bool.not_true,cond_false];rw [eq_IntSS x3 x3 (by omega),Option.bind_some];rw [decide_eq_true rfl,Bool.not_true,cond_false];rw [eq_IntS x4 x4 (by omega),Option.bind_some];rw [decide_eq_true rfl,Bool.not_true,cond_false];rw [eq_Task x5 x6 x7 x8 x9 x10 x11 x12 x13 (by omega),Option.bind_some];rw [Bool.not_true,cond_false];rw [eq_SaidS x14 x14 (by omega),Option.bind_some];rw [decide_eq_true rfl,Bool.not_true,cond_false]
theorem sz_Rec (x0:Int) (x1:Int) (x2:Int) (x3:Int) (x4:Int) (x5:Int) (x6:Int) (x7:Bool) (x8:List (Int × Int)) (x9:List (Int)) (x10:Int) (x11:Int) (x12:List (Int × Int)) (x13:Int) (l:Int) (h0:0<=l) (h1:l<=1048576) (q8:x8.length<=maxLen) (q9:x9.length<=maxLen) (q12:x12.length<=maxLen):g_lszRec ((x0,x1,x2,x3,x4,x5,x6,x7,x8,x9,x10,x11,x12,x13),l)=some (if (((x8.length+x9.length+x12.length):Nat):Int)<=l then l-((x8.length+x9.length+x12.length):Nat) else -1,()):=by
 show f_lszRec BIG _=_;rw [e_lszRec];dsimp only;have s0:=sz_Answer x6 x7 x8 x9 (l) (by omega) (by omega) q8 q9;by_cases c0:(((x8.length+x9.length):Nat):Int)<=l;case neg=>
  rw [if_neg c0] at s0;rw [s0,Option.bind_some,if_neg (by omega)];all_goals rfl
 rw [if_pos c0] at s0;rw [s0,Option.bind_some];dsimp only;rw [decide_eq_false (by omega),cond_false];have s1:=sz_Order x10 x11 x12 x13 (l-((x8.length+x9.length):Nat)) (by omega) (by omega) q12;by_cases c1:(((x12.length):Nat):Int)<=l-((x8.length+x9.length):Nat)
 case neg=>
  rw [if_neg c1] at s1;rw [s1,Option.bind_some,if_neg (by omega)];all_goals rfl
 rw [if_pos c1] at s1;rw [s1,Option.bind_some];dsimp only;rw [decide_eq_false (by omega),cond_false];rw [if_pos (by omega)];all_goals first|rfl | (congr 2;done) | (congr 2;omega)
theorem to_Rec (x0:Int) (x1:Int) (x2:Int) (x3:Int) (x4:Int) (x5:Int) (x6:Int) (x7:Bool) (x8:List (Int × Int)) (x9:List (Int)) (x10:Int) (x11:Int) (x12:List (Int × Int)) (x13:Int) (h:(x8.length+x9.length+x12.length)<=1048576):g_ltoRec (x0,x1,x2,x3,x4,x5,x6,x7,x8,x9,x10,x11,x12,x13)=some ((x0,x1,x2,x3,x4,x5,x6,x7,x8,x9,x10,x11,x12,x13),()):=by
 show f_ltoRec BIG _=_;rw [e_ltoRec];dsimp only;rw [to_Ask x1 x2 x3 x4,Option.bind_some];rw [to_Answer x6 x7 x8 x9 (by omega),Option.bind_some];rw [to_Order x10 x11 x12 x13 (by omega),Option.bind_some]
theorem eq_Rec (x0:Int) (x1:Int) (x2:Int) (x3:Int) (x4:Int) (x5:Int) (x6:Int) (x7:Bool) (x8:List (Int × Int)) (x9:List (Int)) (x10:Int) (x11:Int) (x12:List (Int × Int)) (x13:Int) (h:(x8.length+x9.length+x12.length)<=4294967296):g_leqRec ((x0,x1,x2,x3,x4,x5,x6,x7,x8,x9,x10,x11,x12,x13),(x0,x1,x2,x3,x4,x5,x6,x7,x8,x9,x10,x11,x12,x13))=some (true,()):=by
 show f_leqRec BIG _=_;rw [e_leqRec];dsimp only;rw [decide_eq_true rfl,Bool.not_true,cond_false];rw [eq_Ask,Option.bind_some];rw [decide_eq_true rfl,Bool.not_true,cond_false];rw [decide_eq_true rfl,Bool.not_true,cond_false];rw [eq_Answer x6 x7 x8 x9 (by omega),Option.bind_some];rw [Bool.not_true,cond_false];rw [eq_Order x10 x11 x12 x13 (by omega),Option.bind_some];rw [Bool.not_true,cond_false]
def z_RecS (a:List (Int × Int × Int × Int × Int × Int × Int × Bool × List (Int × Int) × List (Int) × Int × Int × List (Int × Int) × Int)):Nat:=a.length+(a.map fun y=>(y.2.2.2.2.2.2.2.2.1.length+y.2.2.2.2.2.2.2.2.2.1.length+y.2.2.2.2.2.2.2.2.2.2.2.2.1.length)).sum
abbrev B_RecS (a:List (Int × Int × Int × Int × Int × Int × Int × Bool × List (Int × Int) × List (Int) × Int × Int × List (Int × Int) × Int)):Prop:=a.length<=maxLen/\∀y,y∈a->y.2.2.2.2.2.2.2.2.1.length<=maxLen/\y.2.2.2.2.2.2.2.2.2.1.length<=maxLen/\y.2.2.2.2.2.2.2.2.2.2.2.2.1.length<=maxLen
theorem z_RecS_mem {a:List (Int × Int × Int × Int × Int × Int × Int × Bool × List (Int × Int) × List (Int) × Int × Int × List (Int × Int) × Int)} {y:Int × Int × Int × Int × Int × Int × Int × Bool × List (Int × Int) × List (Int) × Int × Int × List (Int × Int) × Int} (h:y∈a):(y.2.2.2.2.2.2.2.2.1.length+y.2.2.2.2.2.2.2.2.2.1.length+y.2.2.2.2.2.2.2.2.2.2.2.2.1.length)<=z_RecS a:=by
 have:∀a:List (Int × Int × Int × Int × Int × Int × Int × Bool × List (Int × Int) × List (Int) × Int × Int × List (Int × Int) × Int),y∈a->(y.2.2.2.2.2.2.2.2.1.length+y.2.2.2.2.2.2.2.2.2.1.length+y.2.2.2.2.2.2.2.2.2.2.2.2.1.length)<=(a.map fun y=>(y.2.2.2.2.2.2.2.2.1.length+y.2.2.2.2.2.2.2.2.2.1.length+y.2.2.2.2.2.2.2.2.2.2.2.2.1.length)).sum:=by
  intro a;induction a with
  | nil=>intro h;cases h
  | cons x a ih=>
   intro h;rw [List.map_cons,List.sum_cons];rcases List.mem_cons.1 h with rfl|h
   ·omega
   ·have:=ih h;omega
 have:=this a h;unfold z_RecS;omega
theorem sz_RecS (a:List (Int × Int × Int × Int × Int × Int × Int × Bool × List (Int × Int) × List (Int) × Int × Int × List (Int × Int) × Int)) (l:Int) (h0:0<=l) (h1:l<=1048576) (ha:B_RecS a):g_lszRecS (a,l)=some (if ((z_RecS a:Nat):Int)<=l then l-(z_RecS a:Nat) else -1,()):=by
 have hm:maxLen=9223372036854775807:=by decide
 have ha1:=ha.1;show f_lszRecS BIG _=_;rw [e_lszRecS,wr (by omega) (by omega)];by_cases h:((a.length:Nat):Int)<=l;case neg=>
  rw [decide_eq_true (by omega),cond_true,if_neg (by unfold z_RecS;omega)]
 rw [decide_eq_false (by omega),cond_false,szLoop a (fun y=>(y.2.2.2.2.2.2.2.2.1.length+y.2.2.2.2.2.2.2.2.2.1.length+y.2.2.2.2.2.2.2.2.2.2.2.2.1.length)) (-1) (l-(a.length:Nat)) (by omega) (by omega) (by omega)]
 ·unfold z_RecS;by_cases c:(((a.map fun y=>(y.2.2.2.2.2.2.2.2.1.length+y.2.2.2.2.2.2.2.2.2.1.length+y.2.2.2.2.2.2.2.2.2.2.2.2.1.length)).sum:Nat):Int)<=l-(a.length:Nat)
  ·rw [if_pos c,if_pos (by omega)];simp only [Option.bind_some];congr 2;omega
  ·rw [if_neg c,if_neg (by omega)];rfl
 ·intro self i l y hy h0 h1;have hi:=(List.getElem?_eq_some_iff.1 hy).1;have hq:=ha.2 y (List.mem_of_getElem? hy);simp only [show ((i:Int)<(a.length:Int)) from by omega,decide_true,cond_true];have e:=sz_Rec y.1 y.2.1 y.2.2.1 y.2.2.2.1 y.2.2.2.2.1 y.2.2.2.2.2.1 y.2.2.2.2.2.2.1 y.2.2.2.2.2.2.2.1 y.2.2.2.2.2.2.2.2.1 y.2.2.2.2.2.2.2.2.2.1 y.2.2.2.2.2.2.2.2.2.2.1 y.2.2.2.2.2.2.2.2.2.2.2.1 y.2.2.2.2.2.2.2.2.2.2.2.2.1 y.2.2.2.2.2.2.2.2.2.2.2.2.2 l h0 h1 hq.1 hq.2.1 hq.2.2;rw [bnd_nat hi,hy,Option.bind_some];refine (congrArg (fun o=>Option.bind o _) e).trans ?_;rw [Option.bind_some];by_cases c:(((y.2.2.2.2.2.2.2.2.1.length+y.2.2.2.2.2.2.2.2.2.1.length+y.2.2.2.2.2.2.2.2.2.2.2.2.1.length):Nat):Int)<=l
  ·rw [if_pos c,if_pos c,decide_eq_false (by omega),cond_false,wr1 (by omega)]
  ·rw [if_neg c,if_neg c,decide_eq_true (by omega),cond_true]
 ·intro self l;simp
theorem to_RecS (a:List (Int × Int × Int × Int × Int × Int × Int × Bool × List (Int × Int) × List (Int) × Int × Int × List (Int × Int) × Int)) (h:z_RecS a<=1048576):g_ltoRecS a=some (a,()):=by
 have hm:maxLen=9223372036854775807:=by decide
 have h1:a.length<=1048576:=by unfold z_RecS at h;omega
 show f_ltoRecS BIG _=_;rw [e_ltoRecS,decide_eq_true (by omega),cond_true,decide_eq_true (by simp;omega),cond_true];simp only [Int.toNat_natCast];rw [cpLoop a (by omega)]
 ·rfl
 ·intro self out i y hl hy;have hi:=(List.getElem?_eq_some_iff.1 hy).1;have hz:=z_RecS_mem (List.mem_of_getElem? hy);simp only [show ((i:Int)<(a.length:Int)) from by omega,decide_true,cond_true];have e:=to_Rec y.1 y.2.1 y.2.2.1 y.2.2.2.1 y.2.2.2.2.1 y.2.2.2.2.2.1 y.2.2.2.2.2.2.1 y.2.2.2.2.2.2.2.1 y.2.2.2.2.2.2.2.2.1 y.2.2.2.2.2.2.2.2.2.1 y.2.2.2.2.2.2.2.2.2.2.1 y.2.2.2.2.2.2.2.2.2.2.2.1 y.2.2.2.2.2.2.2.2.2.2.2.2.1 y.2.2.2.2.2.2.2.2.2.2.2.2.2 (by omega);rw [bnd_nat hi,hy,Option.bind_some];refine (congrArg (fun o=>Option.bind o _) e).trans ?_;rw [Option.bind_some,bnd_nat (by omega),List.getElem?_eq_getElem (by omega),Option.bind_some,wr1 (by omega)]
 ·intro self out hl;simp
theorem eq_RecS (a:List (Int × Int × Int × Int × Int × Int × Int × Bool × List (Int × Int) × List (Int) × Int × Int × List (Int × Int) × Int)) (h:z_RecS a<=4294967296):g_leqRecS (a,a)=some (true,()):=by
 have hm:maxLen=9223372036854775807:=by decide
 have h1:a.length<=4294967296:=by unfold z_RecS at h;omega
 show f_leqRecS BIG _=_;rw [e_leqRecS,decide_eq_true rfl,Bool.not_true,cond_false,allLoop a (by omega) (fun _=>true) false]
 ·rw [if_pos (fun _ _=>rfl)];rfl
 ·intro self i y hy;have hi:=(List.getElem?_eq_some_iff.1 hy).1;have hz:=z_RecS_mem (List.mem_of_getElem? hy);have e:g_leqRec (y,y)=some (true,()):=eq_Rec y.1 y.2.1 y.2.2.1 y.2.2.2.1 y.2.2.2.2.1 y.2.2.2.2.2.1 y.2.2.2.2.2.2.1 y.2.2.2.2.2.2.2.1 y.2.2.2.2.2.2.2.2.1 y.2.2.2.2.2.2.2.2.2.1 y.2.2.2.2.2.2.2.2.2.2.1 y.2.2.2.2.2.2.2.2.2.2.2.1 y.2.2.2.2.2.2.2.2.2.2.2.2.1 y.2.2.2.2.2.2.2.2.2.2.2.2.2 (by omega);simp only [show ((i:Int)<(a.length:Int)) from by omega,decide_true,cond_true];rw [bnd_nat hi,hy,Option.bind_some,bnd_nat hi,hy,Option.bind_some,e,Option.bind_some,wr1 (by omega)];rfl
 ·intro self;simp
def z_ShardS (a:List (Int × Int × List (Int × Int × Int × Bool) × Int × Bool × List (Int × Int) × List (Int))):Nat:=a.length+(a.map fun y=>(y.2.2.1.length+y.2.2.2.2.2.1.length+y.2.2.2.2.2.2.length)).sum
abbrev B_ShardS (a:List (Int × Int × List (Int × Int × Int × Bool) × Int × Bool × List (Int × Int) × List (Int))):Prop:=a.length<=maxLen/\∀y,y∈a->y.2.2.1.length<=maxLen/\y.2.2.2.2.2.1.length<=maxLen/\y.2.2.2.2.2.2.length<=maxLen
theorem z_ShardS_mem {a:List (Int × Int × List (Int × Int × Int × Bool) × Int × Bool × List (Int × Int) × List (Int))} {y:Int × Int × List (Int × Int × Int × Bool) × Int × Bool × List (Int × Int) × List (Int)} (h:y∈a):(y.2.2.1.length+y.2.2.2.2.2.1.length+y.2.2.2.2.2.2.length)<=z_ShardS a:=by
 have:∀a:List (Int × Int × List (Int × Int × Int × Bool) × Int × Bool × List (Int × Int) × List (Int)),y∈a->(y.2.2.1.length+y.2.2.2.2.2.1.length+y.2.2.2.2.2.2.length)<=(a.map fun y=>(y.2.2.1.length+y.2.2.2.2.2.1.length+y.2.2.2.2.2.2.length)).sum:=by
  intro a;induction a with
  | nil=>intro h;cases h
  | cons x a ih=>
   intro h;rw [List.map_cons,List.sum_cons];rcases List.mem_cons.1 h with rfl|h
   ·omega
   ·have:=ih h;omega
 have:=this a h;unfold z_ShardS;omega
theorem sz_ShardS (a:List (Int × Int × List (Int × Int × Int × Bool) × Int × Bool × List (Int × Int) × List (Int))) (l:Int) (h0:0<=l) (h1:l<=1048576) (ha:B_ShardS a):g_lszShardS (a,l)=some (if ((z_ShardS a:Nat):Int)<=l then l-(z_ShardS a:Nat) else -1,()):=by
 have hm:maxLen=9223372036854775807:=by decide
 have ha1:=ha.1;show f_lszShardS BIG _=_;rw [e_lszShardS,wr (by omega) (by omega)];by_cases h:((a.length:Nat):Int)<=l;case neg=>
  rw [decide_eq_true (by omega),cond_true,if_neg (by unfold z_ShardS;omega)]
 rw [decide_eq_false (by omega),cond_false,szLoop a (fun y=>(y.2.2.1.length+y.2.2.2.2.2.1.length+y.2.2.2.2.2.2.length)) (-1) (l-(a.length:Nat)) (by omega) (by omega) (by omega)]
 ·unfold z_ShardS;by_cases c:(((a.map fun y=>(y.2.2.1.length+y.2.2.2.2.2.1.length+y.2.2.2.2.2.2.length)).sum:Nat):Int)<=l-(a.length:Nat)
  ·rw [if_pos c,if_pos (by omega)];simp only [Option.bind_some];congr 2;omega
  ·rw [if_neg c,if_neg (by omega)];rfl
 ·intro self i l y hy h0 h1;have hi:=(List.getElem?_eq_some_iff.1 hy).1;have hq:=ha.2 y (List.mem_of_getElem? hy);simp only [show ((i:Int)<(a.length:Int)) from by omega,decide_true,cond_true];have e:=sz_Shard y.1 y.2.1 y.2.2.1 y.2.2.2.1 y.2.2.2.2.1 y.2.2.2.2.2.1 y.2.2.2.2.2.2 l h0 h1 hq.1 hq.2.1 hq.2.2;rw [bnd_nat hi,hy,Option.bind_some];refine (congrArg (fun o=>Option.bind o _) e).trans ?_;rw [Option.bind_some];by_cases c:(((y.2.2.1.length+y.2.2.2.2.2.1.length+y.2.2.2.2.2.2.length):Nat):Int)<=l
  ·rw [if_pos c,if_pos c,decide_eq_false (by omega),cond_false,wr1 (by omega)]
  ·rw [if_neg c,if_neg c,decide_eq_true (by omega),cond_true]
 ·intro self l;simp
theorem to_ShardS (a:List (Int × Int × List (Int × Int × Int × Bool) × Int × Bool × List (Int × Int) × List (Int))) (h:z_ShardS a<=1048576):g_ltoShardS a=some (a,()):=by
 have hm:maxLen=9223372036854775807:=by decide
 have h1:a.length<=1048576:=by unfold z_ShardS at h;omega
 show f_ltoShardS BIG _=_;rw [e_ltoShardS,decide_eq_true (by omega),cond_true,decide_eq_true (by simp;omega),cond_true];simp only [Int.toNat_natCast];rw [cpLoop a (by omega)]
 ·rfl
 ·intro self out i y hl hy;have hi:=(List.getElem?_eq_some_iff.1 hy).1;have hz:=z_ShardS_mem (List.mem_of_getElem? hy);simp only [show ((i:Int)<(a.length:Int)) from by omega,decide_true,cond_true];have e:=to_Shard y.1 y.2.1 y.2.2.1 y.2.2.2.1 y.2.2.2.2.1 y.2.2.2.2.2.1 y.2.2.2.2.2.2 (by omega);rw [bnd_nat hi,hy,Option.bind_some];refine (congrArg (fun o=>Option.bind o _) e).trans ?_;rw [Option.bind_some,bnd_nat (by omega),List.getElem?_eq_getElem (by omega),Option.bind_some,wr1 (by omega)]
 ·intro self out hl;simp
theorem eq_ShardS (a:List (Int × Int × List (Int × Int × Int × Bool) × Int × Bool × List (Int × Int) × List (Int))) (h:z_ShardS a<=4294967296):g_leqShardS (a,a)=some (true,()):=by
 have hm:maxLen=9223372036854775807:=by decide
 have h1:a.length<=4294967296:=by unfold z_ShardS at h;omega
 show f_leqShardS BIG _=_;rw [e_leqShardS,decide_eq_true rfl,Bool.not_true,cond_false,allLoop a (by omega) (fun _=>true) false]
 ·rw [if_pos (fun _ _=>rfl)];rfl
 ·intro self i y hy;have hi:=(List.getElem?_eq_some_iff.1 hy).1;have hz:=z_ShardS_mem (List.mem_of_getElem? hy);have e:g_leqShard (y,y)=some (true,()):=eq_Shard y.1 y.2.1 y.2.2.1 y.2.2.2.1 y.2.2.2.2.1 y.2.2.2.2.2.1 y.2.2.2.2.2.2 (by omega);simp only [show ((i:Int)<(a.length:Int)) from by omega,decide_true,cond_true];rw [bnd_nat hi,hy,Option.bind_some,bnd_nat hi,hy,Option.bind_some,e,Option.bind_some,wr1 (by omega)];rfl
 ·intro self;simp
theorem sz_BoolS (a:List (Bool)) (l:Int) (h0:0<=l) (h1:l<=1048576) (ha:a.length<=maxLen):g_lszBoolS (a,l)=some (if ((a.length:Nat):Int)<=l then l-(a.length:Nat) else -1,()):=by
 have hm:maxLen=9223372036854775807:=by decide
 show f_lszBoolS BIG _=_;rw [e_lszBoolS,wr (by omega) (by omega)];by_cases h:((a.length:Nat):Int)<=l
 ·rw [if_pos h,decide_eq_false (by omega),cond_false]
 ·rw [if_neg h,decide_eq_true (by omega),cond_true]
theorem to_BoolS (a:List (Bool)) (h:a.length<=1048576):g_ltoBoolS a=some (a,()):=by
 have hm:maxLen=9223372036854775807:=by decide
 show f_ltoBoolS BIG _=_;rw [e_ltoBoolS,decide_eq_true (by omega),cond_true,decide_eq_true (by simp;omega),cond_true];simp only [Int.toNat_natCast];rw [cpLoop a (by omega)]
 ·rfl
 ·intro self out i y hl hy;have hi:=(List.getElem?_eq_some_iff.1 hy).1;simp only [show ((i:Int)<(a.length:Int)) from by omega,decide_true,cond_true];rw [bnd_nat hi,hy,Option.bind_some];rw [bnd_nat (by omega),List.getElem?_eq_getElem (by omega),Option.bind_some,wr1 (by omega)]
 ·intro self out hl;simp
theorem eq_BoolS (a b:List (Bool)) (h:a.length<=4294967296):g_leqBoolS (a,b)=some (decide (a=b),()):=by
 have hm:maxLen=9223372036854775807:=by decide
 show f_leqBoolS BIG _=_;rw [e_leqBoolS];by_cases hl:a.length=b.length
 ·rw [decide_eq_true (by omega),Bool.not_true,cond_false,eqLoop a b (by omega) hl false]
  ·by_cases h:a=b<;>simp [h]
  ·intro self i x y hx hy;have hi:=(List.getElem?_eq_some_iff.1 hx).1;simp only [show ((i:Int)<(a.length:Int)) from by omega,decide_true,cond_true];rw [bnd_nat hi,hx,Option.bind_some,bnd_nat (by omega),hy,Option.bind_some];rw [wr1 (by omega)];cases x<;>cases y<;>simp
  ·intro self;simp
 ·rw [decide_eq_false (by omega),Bool.not_false,cond_true,decide_eq_false (fun h=>hl (by rw [h]))]
abbrev Led:=Int × Int × Int × Bool
theorem grLoop (E:List Led) (hE:E.length<=4294967295) {n:Int} {F:((Int × List (Int × Int)) × Int->Option (Int × List (Int × Int)))->(Int × List (Int × Int)) × Int->Option (Int × List (Int × Int))}
  (hF:∀self out (i:Nat) y,E[i]?=some y->F self ((n,out),(i:Int))=bif decide (out.length+1<=4294967296) then self ((n,out++[(y.1,y.2.1)]),((i+1:Nat):Int)) else none)
  (hE':∀self x,F self (x,(E.length:Int))=some x):loopT BIG F ((n,[]),0)=some (n,E.map fun x=>(x.1,x.2.1)):=by
 rw [foldLoop E (by omega) (fun i (s:Int × List (Int × Int))=>s.1=n/\s.2.length=i) (fun s y=>(s.1,s.2++[(y.1,y.2.1)])) id ⟨rfl,rfl⟩ (fun i s y _ h=>⟨h.1,by simp [h.2]⟩)]
 ·have:∀(l:List Led) (s:Int × List (Int × Int)),l.foldl (fun s y=>(s.1,s.2++[(y.1,y.2.1)])) s=(s.1,s.2++l.map fun x=>(x.1,x.2.1)):=by
   intro l;induction l with
   | nil=>intro s;simp
   | cons y l ih=>intro s;rw [List.foldl_cons,ih];simp
  rw [this];simp
 ·rintro self ⟨m,out⟩ i y hy ⟨rfl,h2⟩;simp only at h2;have hi:=(List.getElem?_eq_some_iff.1 hy).1;rw [hF self out i y hy,decide_eq_true (by omega),cond_true]
 ·intro self s _;exact hE' self s
theorem h_iGraphOf (n:Int) (E:List Led) (hE:E.length<=1048576):g_iGraphOf (n,E)=some ((n,E.map fun x=>(x.1,x.2.1)),()):=by
 have hm:maxLen=9223372036854775807:=by decide
 show f_iGraphOf BIG _=_;rw [e_iGraphOf];dsimp only;rw [grLoop E (by omega)]
 ·rfl
 ·intro self out i y hy;have hi:=(List.getElem?_eq_some_iff.1 hy).1;simp only [show ((i:Int)<(E.length:Int)) from by omega,decide_true,cond_true];rw [bnd_nat hi,hy,Option.bind_some,wr1 (by omega)];rfl
 ·intro self x;simp
theorem h_sGraphOf (n:Int) (E:List Led) (hE:E.length<=1048576):g_sGraphOf (n,E)=some ((n,E.map fun x=>(x.1,x.2.1)),()):=by
 have hm:maxLen=9223372036854775807:=by decide
 show f_sGraphOf BIG _=_;rw [e_sGraphOf];dsimp only;rw [grLoop E (by omega)]
 ·rfl
 ·intro self out i y hy;have hi:=(List.getElem?_eq_some_iff.1 hy).1;simp only [show ((i:Int)<(E.length:Int)) from by omega,decide_true,cond_true];rw [bnd_nat hi,hy,Option.bind_some,bnd_nat hi,hy,Option.bind_some,wr1 (by omega)];rfl
 ·intro self x;simp
theorem h_iOwned (x0 x1:Int) (x2:List Led) (x3:Int) (x4:Bool) (x5:List Ed) (x6:List Int) (hE:x2.length<=1048576):g_iOwned (x0,x1,x2,x3,x4,x5,x6)=some (x2.map fun x=>(x.1,x.2.1),()):=by
 show f_iOwned BIG _=_;rw [e_iOwned];dsimp only;rw [h_iGraphOf _ _ hE];rfl
theorem h_sOwned (x0 x1:Int) (x2:List Led) (x3:Int) (x4:Bool) (x5:List Ed) (x6:List Int) (hE:x2.length<=1048576):g_sOwned (x0,x1,x2,x3,x4,x5,x6)=some (x2.map fun x=>(x.1,x.2.1),()):=by
 show f_sOwned BIG _=_;rw [e_sOwned];dsimp only;rw [h_sGraphOf _ _ hE];simp only [Option.bind_some];rw [decide_eq_true (by simp;omega),cond_true];rfl
theorem h_iBusy (x0:Int) (x1:List Int) (x2:List Ed) (x3:List (List Int)) (x4:List Int) (x5 x6 x7 x8 x9 x10 x11:Int) (x12:List Ed) (x13:Int) (x14:List (Int × Int × Int × Int × Int × Int)):g_iBusy (x0,x1,x2,x3,x4,x5,x6,x7,x8,x9,x10,x11,x12,x13,x14)=some (!decide (x9=0),()):=e_iBusy BIG _
theorem h_sBusy (x0:Int) (x1:List Int) (x2:List Ed) (x3:List (List Int)) (x4:List Int) (x5 x6 x7 x8 x9 x10 x11:Int) (x12:List Ed) (x13:Int) (x14:List (Int × Int × Int × Int × Int × Int)):g_sBusy (x0,x1,x2,x3,x4,x5,x6,x7,x8,x9,x10,x11,x12,x13,x14)=some (!decide (x9=0),()):=e_sBusy BIG _
theorem rangeLoop {S B:Type} (n:Nat) (hl:n<18446744073709551616) {F:(S × Int->Option B)->S × Int->Option B} (I:Nat->S->Prop) (st:Nat->S->S) (R:S->B) {s0:S} (h0:I 0 s0)
  (hI:∀i s,i<n->I i s->I (i+1) (st i s)) (hF:∀self s (i:Nat),i<n->I i s->F self (s,(i:Int))=self (st i s,((i+1:Nat):Int)))
  (hE:∀self s,I n s->F self (s,(n:Int))=some (R s)):loopT BIG F (s0,0)=some (R ((List.range n).foldl (fun s i=>st i s) s0)):=by
 have hr:∀{i y:Nat},(List.range n)[i]?=some y->i<n/\y=i:=by
  intro i y h;have hi:=(List.getElem?_eq_some_iff.1 h).1;rw [List.length_range] at hi;rw [List.getElem?_range hi] at h;cases h;exact ⟨hi,rfl⟩
 refine foldLoop (List.range n) (by rw [List.length_range];exact hl) I (fun s i=>st i s) R h0 (fun i s y hy hi => ?_) (fun self s i y hy hi => ?_) (fun self s hs => ?_)
 ·obtain ⟨h1,rfl⟩:=hr hy;exact hI _ _ h1 hi
 ·obtain ⟨h1,rfl⟩:=hr hy;exact hF _ _ _ h1 hi
 ·rw [List.length_range] at hs ⊢;exact hE _ _ hs
theorem fold_snoc {α:Type} (f:Nat->α) (n:Nat) (s:List α):(List.range n).foldl (fun s i=>s++[f i]) s=s++(List.range n).map f:=by
 induction n with
 | zero=>simp
 | succ n ih=>rw [List.range_succ,List.foldl_append,ih];simp
theorem lab0Loop (n:Nat) (hn:n<=1000000) {F:(List Int × Int->Option (List Int))->List Int × Int->Option (List Int)}
  (hF:∀self out (i:Nat),i<n->out.length=i->F self (out,(i:Int))=self (out++[(i:Int)],((i+1:Nat):Int)))
  (hE:∀self out,F self (out,(n:Int))=some out):loopT BIG F ([],0)=some (lab0 n):=by
 rw [rangeLoop n (by omega) (fun i (s:List Int)=>s.length=i) (fun i s=>s++[(i:Int)]) id rfl (fun i s _ h=>by simp [h]) (fun self s i hi h=>hF self s i hi h) (fun self s _=>hE self s),fold_snoc];rfl
theorem h_ifirst (n:Nat) (hn:n<=1000000):g_ifirst (n:Int)=some (lab0 n,()):=by
 have hm:maxLen=9223372036854775807:=by decide
 show f_ifirst BIG _=_;rw [e_ifirst,lab0Loop n hn]
 ·rfl
 ·intro self out i hi hl;simp only [show ((i:Int)<(n:Int)) from by omega,decide_true,cond_true];rw [decide_eq_true (by simp;omega),cond_true,wr1 (by omega)]
 ·intro self out;simp
theorem lrnds_fold (E:List (Int × Int)) (n:Nat):∀l:List Int,(List.range n).foldl (fun s _=>lrnd E s) l=lrnds E n l:=by
 have:∀(m:Nat) (l:List Int),lrnds E (m+1) l=lrnd E (lrnds E m l):=by
  intro m;induction m with
  | zero=>intro l;rfl
  | succ m ih=>intro l;show lrnds E (m+1) (lrnd E l)=_;rw [ih];rfl
 induction n with
 | zero=>intro l;rfl
 | succ n ih=>intro l;rw [List.range_succ,List.foldl_append,ih,this];rfl
theorem h_sl05Labels (n:Nat) (E:List (Int × Int)) (hn:n<=12) (hE:EIn n E) (hl:E.length<=4611686018427387904):g_sl05Labels ((n:Int),E)=some (labs n E,()):=by
 have hm:maxLen=9223372036854775807:=by decide
 show f_sl05Labels BIG _=_;rw [e_sl05Labels,lab0Loop n (by omega)]
 ·rw [Option.bind_some,rangeLoop n (by omega) (fun i (s:List Int)=>s.length=n) (fun _ s=>lrnd E s) id (lab0_len n) (fun i s _ h=>by rw [lrnd_len];exact h)]
  ·rw [lrnds_fold,lrnds_labs hE];rfl
  ·intro self s i hi hs;simp only [show ((i:Int)<(n:Int)) from by omega,decide_true,cond_true];rw [foldLoop E (by omega) (fun _ (s:List Int)=>s.length=n) rlE id hs (fun i s y _ h=>by rw [rlE_len];exact h)]
   ·rw [Option.bind_some,wr1 (by omega)];rfl
   ·intro self s i y hy hs;have hi:=(List.getElem?_eq_some_iff.1 hy).1;obtain ⟨h1,h2,h3,h4⟩:=hE y (List.mem_of_getElem? hy);have i1:y.1.toNat<s.length:=by omega
    have i2:y.2.toNat<s.length:=by omega
    simp only [show ((i:Int)<(E.length:Int)) from by omega,decide_true,cond_true];rw [wr1 (by omega),bnd_nat hi,hy,Option.bind_some,bnd_ok h1 (by omega),getD_at i1,Option.bind_some,bnd_nat hi,hy,Option.bind_some,bnd_ok h3 (by omega),getD_at i2,Option.bind_some];unfold rlE;simp only;by_cases c1:s.getD y.1.toNat 0<s.getD y.2.toNat 0
    ·rw [decide_eq_true c1,cond_true,bnd_nat hi,hy,Option.bind_some,bnd_ok h3 (by omega),getD_at i2,Option.bind_some,Option.bind_some,decide_eq_false (by omega),cond_false,if_pos c1,if_neg (by omega)];rfl
    ·rw [decide_eq_false c1,cond_false,Option.bind_some,if_neg c1];by_cases c2:s.getD y.2.toNat 0<s.getD y.1.toNat 0
     ·rw [decide_eq_true c2,cond_true,bnd_nat hi,hy,Option.bind_some,bnd_ok h1 (by omega),getD_at i1,Option.bind_some,if_pos c2];rfl
     ·rw [decide_eq_false c2,cond_false,if_neg c2];rfl
   ·intro self s _;simp
  ·intro self s _;simp
 ·intro self out i hi hl;simp only [show ((i:Int)<(n:Int)) from by omega,decide_true,cond_true];rw [decide_eq_true (by simp;omega),cond_true,wr1 (by omega)]
 ·intro self out;simp
abbrev Hd:=Int × List Int × List (Int × Int) × List (List Int) × List Int × Int × Int × Int × Int × Int × Int × Int × List (Int × Int) × Int × List (Int × Int × Int × Int × Int × Int)
def ownL (n k:Nat):List Int:=(List.range n).map fun (i:Nat)=>1+Int.tmod (i:Int) k
def hdN (n k:Nat):Hd:=((n:Int),ownL n k,[],List.replicate k (lab0 n),List.replicate k 0,0,0,0,0,0,0,0,[],0,[])
theorem fold_own (f:Nat->Int) (n:Nat) (s:Hd):(List.range n).foldl (fun (s:Hd) i=>(s.1,s.2.1++[f i],s.2.2)) s=(s.1,s.2.1++(List.range n).map f,s.2.2):=by
 induction n with
 | zero=>simp
 | succ n ih=>rw [List.range_succ,List.foldl_append,ih];simp
theorem fold_lab (L:List Int) (n:Nat) (s:Hd):(List.range n).foldl (fun (s:Hd) i=>(s.1,s.2.1,s.2.2.1,s.2.2.2.1++[L],s.2.2.2.2)) s=(s.1,s.2.1,s.2.2.1,s.2.2.2.1++List.replicate n L,s.2.2.2.2):=by
 induction n with
 | zero=>simp
 | succ n ih=>rw [List.range_succ,List.foldl_append,ih,List.replicate_succ'];simp
theorem fold_labn (L:List Int) (n:Nat) (s:Hd):(List.range n).foldl (fun (s:Hd) i=>(s.1,s.2.1,s.2.2.1,s.2.2.2.1++[L],s.2.2.2.2.1++[0],s.2.2.2.2.2)) s=(s.1,s.2.1,s.2.2.1,s.2.2.2.1++List.replicate n L,s.2.2.2.2.1++List.replicate n 0,s.2.2.2.2.2):=by
 induction n with
 | zero=>simp
 | succ n ih=>rw [List.range_succ,List.foldl_append,ih,List.replicate_succ',List.replicate_succ'];simp
theorem tmod_b {i k:Nat} (hk:1<=k) (hk':k<=3):0<=Int.tmod (i:Int) k/\Int.tmod (i:Int) k<3:=by
 rw [Int.tmod_eq_emod_of_nonneg (by omega)];have h1:=Int.emod_nonneg (i:Int) (show (k:Int)≠0 from by omega);have h2:=Int.emod_lt_of_pos (i:Int) (show (0:Int)<(k:Int) from by omega);omega
theorem h_iHeadNew (n k:Int):∃r:Hd × Bool,r=(if inB n 1 12&&inB k 1 3 then (hdN n.toNat k.toNat,true) else ((0,[],[],[],[],0,0,0,0,0,0,0,[],0,[]),false)) /\
  g_iHeadNew (n,k)=some ((r.1.1,r.1.2.1,r.1.2.2.1,r.1.2.2.2.1,r.1.2.2.2.2.1,r.1.2.2.2.2.2.1,r.1.2.2.2.2.2.2.1,r.1.2.2.2.2.2.2.2.1,r.1.2.2.2.2.2.2.2.2.1,r.1.2.2.2.2.2.2.2.2.2.1,r.1.2.2.2.2.2.2.2.2.2.2.1,r.1.2.2.2.2.2.2.2.2.2.2.2.1,r.1.2.2.2.2.2.2.2.2.2.2.2.2.1,r.1.2.2.2.2.2.2.2.2.2.2.2.2.2.1,r.1.2.2.2.2.2.2.2.2.2.2.2.2.2.2,r.2),()) /\
  g_sHeadNew (n,k)=some ((r.1.1,r.1.2.1,r.1.2.2.1,r.1.2.2.2.1,r.1.2.2.2.2.1,r.1.2.2.2.2.2.1,r.1.2.2.2.2.2.2.1,r.1.2.2.2.2.2.2.2.1,r.1.2.2.2.2.2.2.2.2.1,r.1.2.2.2.2.2.2.2.2.2.1,r.1.2.2.2.2.2.2.2.2.2.2.1,r.1.2.2.2.2.2.2.2.2.2.2.2.1,r.1.2.2.2.2.2.2.2.2.2.2.2.2.1,r.1.2.2.2.2.2.2.2.2.2.2.2.2.2.1,r.1.2.2.2.2.2.2.2.2.2.2.2.2.2.2,r.2),()):=by
 have hm:maxLen=9223372036854775807:=by decide
 refine ⟨_,rfl,?_⟩;have hi:g_iHeadNew (n,k)=f_iHeadNew BIG (n,k):=rfl;have hs:g_sHeadNew (n,k)=f_sHeadNew BIG (n,k):=rfl;rw [hi,hs,e_iHeadNew,e_sHeadNew,h_iin',h_sl01In',h_iin',h_sl01In'];simp only [Option.bind_some];cases hn:inB n 1 12 with
 | false=>exact ⟨rfl,rfl⟩
 | true=>
  simp only [Bool.not_true,cond_false,Option.bind_some];cases hk:inB k 1 3 with
  | false=>exact ⟨rfl,rfl⟩
  | true=>
   rw [inB_t] at hn hk;obtain ⟨N,rfl⟩:∃N:Nat,n=N:=⟨n.toNat,by omega⟩
   obtain ⟨K,rfl⟩:∃K:Nat,k=K:=⟨k.toNat,by omega⟩
   simp only [Bool.not_true,cond_false,Int.toNat_natCast,Bool.and_self,if_true];have g1:∀(s0:Hd),s0.2.1=[]->∀F:(Hd × Int->Option Hd)->Hd × Int->Option Hd,
     (∀self (s:Hd) (i:Nat),i<N->s.2.1.length=i->F self (s,(i:Int))=self ((s.1,s.2.1++[1+Int.tmod (i:Int) K],s.2.2),((i+1:Nat):Int)))->(∀self s,F self (s,(N:Int))=some s) ->
     loopT BIG F (s0,0)=some (s0.1,ownL N K,s0.2.2):=by
    intro s0 h0 F hF hE;rw [rangeLoop N (by omega) (fun i (s:Hd)=>s.2.1.length=i) (fun i s=>(s.1,s.2.1++[1+Int.tmod (i:Int) K],s.2.2)) id (by rw [h0];rfl) (fun i s _ h=>by simp [h]) (fun self s i hi h=>hF self s i hi h) (fun self s _=>hE self s),fold_own,h0];rfl
   constructor
   ·rw [g1 _ rfl]
    ·rw [Option.bind_some,rangeLoop K (by omega) (fun i (s:Hd)=>s.2.2.2.1.length=i/\s.2.2.2.2.1.length=i) (fun _ s=>(s.1,s.2.1,s.2.2.1,s.2.2.2.1++[lab0 N],s.2.2.2.2.1++[0],s.2.2.2.2.2)) id ⟨rfl,rfl⟩ (fun i s _ h=>by simp [h.1,h.2])]
     ·rw [fold_labn];rfl
     ·intro self s i hi ⟨hs1,hs2⟩;simp only [show ((i:Int)<(K:Int)) from by omega,decide_true,cond_true];rw [h_ifirst N (by omega),Option.bind_some,decide_eq_true (by simp;omega),cond_true,decide_eq_true (by simp;omega),cond_true,wr1 (by omega)]
     ·intro self s _;simp
    ·intro self s i hi hs;have:=tmod_b (i:=i) (k:=K) (by omega) (by omega);simp only [show ((i:Int)<(N:Int)) from by omega,decide_true,cond_true];rw [decide_eq_false (by omega),cond_false,wr (by omega) (by omega),decide_eq_true (by simp;omega),cond_true,wr1 (by omega)]
    ·intro self s;simp
   ·rw [decide_eq_true (by omega),cond_true,decide_eq_true (by omega),cond_true,g1 _ rfl]
    ·rw [Option.bind_some,rangeLoop K (by omega) (fun i (s:Hd)=>s.2.2.2.1.length=i) (fun _ s=>(s.1,s.2.1,s.2.2.1,s.2.2.2.1++[lab0 N],s.2.2.2.2)) id rfl (fun i s _ h=>by simp [h])]
     ·rw [fold_lab];rfl
     ·intro self s i hi hs1;simp only [show ((i:Int)<(K:Int)) from by omega,decide_true,cond_true];rw [h_sl05Labels N [] (by omega) (fun e he=>by cases he) (by simp),Option.bind_some,decide_eq_true (by simp;omega),cond_true,wr1 (by omega)];rfl
     ·intro self s _;simp
    ·intro self s i hi hs;have:=tmod_b (i:=i) (k:=K) (by omega) (by omega);simp only [show ((i:Int)<(N:Int)) from by omega,decide_true,cond_true];rw [decide_eq_false (by omega),cond_false,wr (by omega) (by omega),decide_eq_true (by simp;omega),cond_true,wr1 (by omega)]
    ·intro self s;simp
def grB (n:Int) (es:List Ed):Bool:=inB n 1 12&&eOk n es
theorem w_iGraphOk (n:Int) (es:List Ed) (hl:es.length<=1048576):g_iGraphOk (n,es)=some (grB n es,()):=by
 show f_iGraphOk BIG _=_;rw [e_iGraphOk,h_iin',h_iedgesOk n es hl];unfold grB;cases inB n 1 12<;>rfl
theorem w_sGraphOk (n:Int) (es:List Ed) (hl:es.length<=1048576):g_sGraphOk (n,es)=some (grB n es,()):=by
 show f_sGraphOk BIG _=_;rw [e_sGraphOk,h_sl01In',h_sl05Edges n es hl];unfold grB;cases inB n 1 12<;>rfl
theorem eOk_srt {n:Int} {es:List Ed} (h:eOk n es=true):(∀e,e∈es->edB n e=true)/\Srt es/\es.length<=66:=by
 have hl:=eOk_len h;unfold eOk at h;split at h;case isFalse=>cases h
 case isTrue hp=>
 have hc:∀i (h:i+1<es.length),edB n es[i+1]=true/\lsB es[i] es[i+1]=true:=by
  intro i hi;have:=hp (i+1) hi;rw [eP_s (List.getElem?_eq_getElem hi) (List.getElem?_eq_getElem (by omega)),Bool.and_eq_true] at this;exact this
 have h0:∀i (h:i<es.length),edB n es[i]=true:=by
  intro i hi;cases i with
  | zero=>have:=hp 0 hi;rwa [eP_0 (List.getElem?_eq_getElem hi)] at this
  | succ i=>exact (hc i hi).1
 refine ⟨fun e he => ?_,List.pairwise_iff_getElem.2 fun i j hi hj hij => ?_,hl⟩
 ·obtain ⟨i,hi,rfl⟩:=List.getElem_of_mem he;exact h0 i hi
 ·have:∀d (h:i+1+d<es.length),lsB es[i] es[i+1+d]=true:=by
   intro d;induction d with
   | zero=>intro h;exact (hc i h).2
   | succ d ih=>intro h;exact lsB_trans (ih (by omega)) (hc (i+1+d) h).2
  have:=this (j-(i+1)) (by omega);simpa [show i+1+(j-(i+1))=j from by omega] using this
theorem edB_in {n:Nat} {e:Ed} (h:edB (n:Int) e=true):0<=e.1/\e.1<n/\0<=e.2/\e.2<n/\e.1<e.2:=by
 simp only [edB,Bool.and_eq_true,inB_t,decide_eq_true_eq] at h;omega
theorem eOk_in {n:Nat} {es:List Ed} (h:eOk (n:Int) es=true):EIn n es:=fun e he=>by
 have:=edB_in ((eOk_srt h).1 e he)
 exact ⟨this.1,this.2.1,this.2.2.1,this.2.2.2.1⟩
theorem mapLoop {α:Type} (a:List α) (f:α->α) (hl:a.length<18446744073709551616) {F:(List α × Int->Option (List α))->List α × Int->Option (List α)}
  (hF:∀self out (i:Nat) y,out.length=a.length->out[i]?=some y->a[i]?=some y->F self (out,(i:Int))=self (out.set i (f y),((i+1:Nat):Int)))
  (hE:∀self out,out.length=a.length->F self (out,(a.length:Int))=some out):loopT BIG F (a,0)=some (a.map f):=by
 have:=loop_eq (F:=F) (fun x=>∃i:Nat,x.2=i/\i<=a.length/\x.1=(a.map f).take i++a.drop i) (fun x=>a.length-x.2.toNat) (fun _=>a.map f) (fun self x ⟨i,h1,h2,h3⟩ hs => ?_) (n:=BIG) (x:=(a,0)) (by simp;exact hl) ⟨0,rfl,by simp,by simp⟩
 ·exact this
 ·obtain ⟨out,j⟩:=x;simp only at h1 h3;subst h1;have hlen:out.length=a.length:=by rw [h3];simp;omega
  by_cases hi:i<a.length
  ·have hy:=List.getElem?_eq_getElem hi;have ho:out[i]?=some a[i]:=by
    rw [h3,List.getElem?_append_right (by simp;omega)];simp [Nat.min_eq_left (show i<=a.length from by omega)]
   rw [hF self out i a[i] hlen ho hy];have e:=set_take_drop (a:=a) (t:=a.map f) (i:=i) (z:=f a[i]) (by simp) hi (by simp [hi]);rw [<-h3] at e;exact hs _ ⟨i+1,rfl,hi,e⟩ (by simp;omega)
  ·have:i=a.length:=by omega
   subst this;rw [hE self out hlen,h3];simp [List.take_of_length_le]
theorem set_self {α:Type} {l:List α} {i:Nat} {y:α} (h:l[i]?=some y):l.set i y=l:=by
 apply List.ext_getElem?;intro j;rw [List.getElem?_set];split
 ·subst j;have:=(List.getElem?_eq_some_iff.1 h).1;simp [this,h.symm]
 ·rfl
theorem h_iunion (l:List Int) (a b:Int) (ha:0<=a) (ha':a<l.length) (hb:0<=b) (hb':b<l.length) (hl:l.length<=1048576) :
  g_iunion (l,a,b)=some (!decide (l.getD a.toNat 0=l.getD b.toNat 0),unE l (a,b)):=by
 have hm:maxLen=9223372036854775807:=by decide
 show f_iunion BIG _=_;rw [e_iunion,bnd_ok ha ha',getD_at (by omega),Option.bind_some,bnd_ok hb hb',getD_at (by omega),Option.bind_some];unfold unE;simp only;generalize l.getD a.toNat 0=x;generalize l.getD b.toNat 0=y;by_cases h:x=y
 ·subst h;rw [decide_eq_true rfl,cond_true,unL_same];rfl
 ·rw [decide_eq_false h,cond_false,mapLoop l (fun z=>if z=(if y > x then y else x) then (if y<x then y else x) else z) (by omega)]
  ·rfl
  ·intro self out i z hlo ho hz;have hi:=(List.getElem?_eq_some_iff.1 hz).1;simp only [show ((i:Int)<(l.length:Int)) from by omega,decide_true,cond_true];rw [bnd_nat (by omega),ho,Option.bind_some,wr1 (by omega)];by_cases hc:z=(if y > x then y else x)
   ·rw [decide_eq_true hc,cond_true,bnd_nat (by omega),ho,Option.bind_some,if_pos hc];rfl
   ·rw [decide_eq_false hc,cond_false,if_neg hc,set_self ho];rfl
  ·intro self out hlo;simp
theorem h_iLabels (n:Nat) (es:List Ed) (hl:es.length<=1048576):g_iLabels ((n:Int),es)=some (if grB n es then labs n es else [],()):=by
 have hm:maxLen=9223372036854775807:=by decide
 show f_iLabels BIG _=_;rw [e_iLabels,w_iGraphOk _ _ hl,Option.bind_some];cases hg:grB n es with
 | false=>rfl
 | true=>
  simp only [grB,Bool.and_eq_true,inB_t] at hg;have hin:=eOk_in hg.2;simp only [Bool.not_true,cond_false];rw [h_ifirst n (by omega),Option.bind_some,foldLoop es (by omega) (fun _ (s:List Int)=>s.length=n) unE id (lab0_len n) (fun i s y _ h=>by rw [unE_len];exact h)]
  ·rfl
  ·intro self s i y hy hs;have hi:=(List.getElem?_eq_some_iff.1 hy).1;have he:=hin y (List.mem_of_getElem? hy);simp only [show ((i:Int)<(es.length:Int)) from by omega,decide_true,cond_true];rw [bnd_nat hi,hy,Option.bind_some,h_iunion s y.1 y.2 he.1 (by omega) he.2.2.1 (by omega) (by omega),Option.bind_some,wr1 (by omega)]
  ·intro self s _;simp
theorem h_sLabels (n:Nat) (es:List Ed) (hl:es.length<=1048576):g_sLabels ((n:Int),es)=some (if grB n es then labs n es else [],()):=by
 show f_sLabels BIG _=_;rw [e_sLabels,w_sGraphOk _ _ hl,Option.bind_some];cases hg:grB n es with
 | false=>rfl
 | true=>
  simp only [grB,Bool.and_eq_true,inB_t] at hg;simp only [Bool.not_true,cond_false];rw [h_sl05Labels n es (by omega) (eOk_in hg.2) (by omega)];rfl
def tgB (n:Int) (es:List Ed) (a b:Int):Bool:=grB n es&&(inB a 0 (n-1)&&(inB b 0 (n-1)&&decide ((labs n.toNat es).getD a.toNat 0=(labs n.toNat es).getD b.toNat 0)))
theorem h_iTogether (n:Int) (es:List Ed) (a b:Int) (hl:es.length<=1048576):g_iTogether ((n,es),a,b)=some (tgB n es a b,()):=by
 show f_iTogether BIG _=_;rw [e_iTogether,w_iGraphOk _ _ hl,Option.bind_some];unfold tgB;cases hg:grB n es with
 | false=>rfl
 | true=>
  have hg':=hg;simp only [grB,Bool.and_eq_true,inB_t] at hg';obtain ⟨N,rfl⟩:∃N:Nat,n=N:=⟨n.toNat,by omega⟩
  simp only [Bool.not_true,cond_false,h_iin',Option.bind_some];rw [wr (by omega) (by omega)];cases ha:inB a 0 ((N:Int)-1) with
  | false=>rfl
  | true=>
   cases hb:inB b 0 ((N:Int)-1) with
   | false=>rfl
   | true=>
    rw [inB_t] at ha hb;simp only [Bool.not_true,cond_false,Option.bind_some];rw [h_iLabels N es hl,hg,if_pos rfl,Option.bind_some];have h1:a.toNat<(labs N es).length:=by rw [labs_len];omega
    have h2:b.toNat<(labs N es).length:=by rw [labs_len];omega
    simp only;rw [bnd_ok ha.1 (by omega),getD_at h1,Option.bind_some,bnd_ok hb.1 (by omega),getD_at h2,Option.bind_some];rfl
theorem h_sTogether (n:Int) (es:List Ed) (a b:Int) (hl:es.length<=1048576):g_sTogether ((n,es),a,b)=some (tgB n es a b,()):=by
 show f_sTogether BIG _=_;rw [e_sTogether];unfold tgB;have hs:g_sLabels (n,es)=f_sLabels BIG (n,es):=rfl;cases hg:grB n es with
 | false=>
  rw [hs,e_sLabels,w_sGraphOk _ _ hl,hg];simp only [Option.bind_some,Bool.not_false,cond_true,List.length_nil,h_sl01In'];rw [wr (by simp) (by simp)];have:inB a 0 (((0:Nat):Int)-1)=false:=by
   cases h:inB a 0 (((0:Nat):Int)-1) with
   | false=>rfl
   | true=>rw [inB_t] at h;omega
  rw [this];rfl
 | true=>
  have hg':=hg;simp only [grB,Bool.and_eq_true,inB_t] at hg';obtain ⟨N,rfl⟩:∃N:Nat,n=N:=⟨n.toNat,by omega⟩
  rw [h_sLabels N es hl,hg,if_pos rfl,Option.bind_some];simp only [labs_len,h_sl01In',Option.bind_some];rw [wr (by omega) (by omega)];cases ha:inB a 0 ((N:Int)-1) with
  | false=>rfl
  | true=>
   cases hb:inB b 0 ((N:Int)-1) with
   | false=>rfl
   | true=>
    rw [inB_t] at ha hb;simp only [cond_true,Option.bind_some];have h1:a.toNat<(labs N es).length:=by rw [labs_len];omega
    have h2:b.toNat<(labs N es).length:=by rw [labs_len];omega
    rw [bnd_ok ha.1 (by omega),getD_at h1,Option.bind_some,bnd_ok hb.1 (by omega),getD_at h2,Option.bind_some];rfl
def addR (n:Int) (es:List Ed) (e:Ed):Int × List Ed × Bool:=if grB n es&&(edB n e && !decide (e∈es)) then (n,ins es e,true) else (0,[],false)
def takR (n:Int) (es:List Ed) (e:Ed):Int × List Ed × Bool:=if grB n es&&decide (e∈es) then (n,del es e,true) else (0,[],false)
theorem w_iAddEdge (n:Int) (es:List Ed) (e:Ed) (hl:es.length<=1048576):g_iAddEdge ((n,es),e)=some (addR n es e,()):=by
 have hm:maxLen=9223372036854775807:=by decide
 show f_iAddEdge BIG _=_;rw [e_iAddEdge,w_iGraphOk n es hl,h_iEdgeOk,h_iHasEdge n es e (by omega),h_iwithEdge es e (by omega)];unfold addR;cases hg:grB n es with
 | false=>rfl
 | true=>
  cases he:edB n e with
  | false=>rfl
  | true=>
   by_cases hin:e∈es
   ·rw [decide_eq_true hin];rfl
   ·simp only [grB,Bool.and_eq_true] at hg;rw [decide_eq_false hin,fdI_ins (eOk_srt hg.2).2.1 hin];rfl
theorem w_sAddEdge (n:Int) (es:List Ed) (e:Ed) (hl:es.length<=1048576):g_sAddEdge ((n,es),e)=some (addR n es e,()):=by
 have hm:maxLen=9223372036854775807:=by decide
 show f_sAddEdge BIG _=_;rw [e_sAddEdge,w_sGraphOk n es hl,h_sEdgeOk,h_sHasEdge n es e (by omega),h_sl05Put es e (by omega)];unfold addR;cases hg:grB n es with
 | false=>rfl
 | true=>
  cases he:edB n e with
  | false=>rfl
  | true=>cases decide (e∈es)<;>rfl
theorem h_sl05Without (es:List Ed) (e:Ed) (hl:es.length<=1048576):g_sl05Without (es,e)=some (del es e,()):=by
 have hm:maxLen=9223372036854775807:=by decide
 show f_sl05Without BIG _=_;rw [e_sl05Without,foldLoop es (by omega) (fun i (c:List Ed)=>c.length<=i) (fun c y=>if (!decide (y=e)) then c++[y] else c) id (by simp) (fun i c y _ (h:c.length<=i)=>by show List.length (if _ then _ else _)<=_;split<;>(try simp)<;>omega)]
 ·rw [foldl_filter];rfl
 ·intro self c i y hy (hc:c.length<=i);have hi:=(List.getElem?_eq_some_iff.1 hy).1;simp only [show ((i:Int)<(es.length:Int)) from by omega,decide_true,cond_true];rw [bnd_nat hi,hy,Option.bind_some,wr1 (by omega)];have hd:(decide (y.1=e.1)&&(decide (y.2=e.2)&&true))=decide (y=e):=by
   obtain ⟨y1,y2⟩:=y;obtain ⟨e1,e2⟩:=e;by_cases h1:y1=e1<;>by_cases h2:y2=e2<;>simp [h1,h2]
  rw [hd];cases decide (y=e) with
  | true=>simp
  | false=>simp [bnd_nat hi,hy,show c.length+1<=4294967296 from by omega]
 ·intro self c hc;simp
theorem w_iwithoutEdge (es:List Ed) (e:Ed) (hl:es.length<=1048576):g_iwithoutEdge (es,e)=some (del es e,()):=by
 have hm:maxLen=9223372036854775807:=by decide
 show f_iwithoutEdge BIG _=_;rw [e_iwithoutEdge,foldLoop es (by omega) (fun i (c:List Ed)=>c.length<=i) (fun c y=>if (!decide (y=e)) then c++[y] else c) id (by simp) (fun i c y _ (h:c.length<=i)=>by show List.length (if _ then _ else _)<=_;split<;>(try simp)<;>omega)]
 ·rw [foldl_filter];rfl
 ·intro self c i y hy (hc:c.length<=i);have hi:=(List.getElem?_eq_some_iff.1 hy).1;simp only [show ((i:Int)<(es.length:Int)) from by omega,decide_true,cond_true];rw [bnd_nat hi,hy,Option.bind_some,wr1 (by omega)];have hd:(decide (y.1=e.1)&&(decide (y.2=e.2)&&true))=decide (y=e):=by
   obtain ⟨y1,y2⟩:=y;obtain ⟨e1,e2⟩:=e;by_cases h1:y1=e1<;>by_cases h2:y2=e2<;>simp [h1,h2]
  rw [hd];cases decide (y=e) with
  | true=>simp
  | false=>simp [show c.length+1<=4294967296 from by omega]
 ·intro self c hc;simp
theorem w_iTakeEdge (n:Int) (es:List Ed) (e:Ed) (hl:es.length<=1048576):g_iTakeEdge ((n,es),e)=some (takR n es e,()):=by
 have hm:maxLen=9223372036854775807:=by decide
 show f_iTakeEdge BIG _=_;rw [e_iTakeEdge,w_iGraphOk n es hl,h_iHasEdge n es e (by omega),w_iwithoutEdge es e hl];unfold takR;cases grB n es<;>cases decide (e∈es)<;>rfl
theorem w_sTakeEdge (n:Int) (es:List Ed) (e:Ed) (hl:es.length<=1048576):g_sTakeEdge ((n,es),e)=some (takR n es e,()):=by
 have hm:maxLen=9223372036854775807:=by decide
 show f_sTakeEdge BIG _=_;rw [e_sTakeEdge,w_sGraphOk n es hl,h_sHasEdge n es e (by omega),h_sl05Without es e hl];unfold takR;cases grB n es<;>cases decide (e∈es)<;>rfl
def edO (a b:Int):Ed:=if a<b then (a,b) else (b,a)
theorem h_iedgeOf (i o a b:Int):g_iedgeOf (i,o,a,b)=some (edO a b,()):=by
 show f_iedgeOf BIG _=_;rw [e_iedgeOf];unfold edO;dsimp only;by_cases h:a<b
 ·rw [if_neg (by omega),if_pos (by omega),if_pos h]
 ·rw [if_neg h];by_cases h':b<a
  ·rw [if_pos h',if_neg (by omega)]
  ·rw [if_neg h',if_neg (by omega),show a=b from by omega]
theorem h_sl12Edge (i o a b:Int):g_sl12Edge (i,o,a,b)=some (edO a b,()):=by
 show f_sl12Edge BIG _=_;rw [e_sl12Edge];unfold edO;dsimp only;by_cases h:a<b
 ·rw [decide_eq_true h,cond_true,if_pos h]
 ·rw [decide_eq_false h,cond_false,if_neg h]
theorem h_icopyEdges (es:List Ed) (hl:es.length<=1048576):g_icopyEdges es=some (es,()):=by
 show f_icopyEdges BIG _=_;rw [e_icopyEdges,decide_eq_true (by omega)];rfl
theorem h_iyesNo (b:Bool):g_iyesNo b=some (if b then 1 else 2,()):=by
 show f_iyesNo BIG _=_;rw [e_iyesNo];cases b<;>rfl
def mdl (n:Int) (es:List Ed) (o a b:Int):Int × List Ed × Int:=
 if inB o 1 4&&(decide (0<=a)&&decide (a<n)) then
  if o=4 then (n,es,if inB b 1 3 then 1 else 3)
  else if (decide (0<=b)&&decide (b<n)) && !(decide (a=b) && !decide (o=3)) then
   if o=3 then (n,es,if tgB n es a b then 1 else 2)
   else
    let r:=if o=2 then takR n es (edO a b) else addR n es (edO a b)
    if r.2.2 then (r.1,r.2.1,1) else (n,es,2)
  else (n,es,3)
 else (n,es,3)
theorem h_sModel (n:Int) (es:List Ed) (i o a b:Int) (hl:es.length<=1048576):g_sModel ((n,es),i,o,a,b)=some (mdl n es o a b,()):=by
 show f_sModel BIG _=_;rw [e_sModel];dsimp only;rw [decide_eq_true (show 0+es.length<=4294967296 from by omega),cond_true,h_sl01In',List.nil_append];simp only [Option.bind_some];unfold mdl;cases ho:inB o 1 4 with
 | false=>rfl
 | true=>
  rw [inB_t] at ho;by_cases h1:0<=a
  ·by_cases h2:a<n
   ·simp only [h1,h2,decide_true,Bool.not_true,cond_true,cond_false,Option.bind_some,Bool.and_self,if_true];by_cases h4:o=4
    ·rw [decide_eq_true h4,if_pos h4,cond_true,h_sl01In',Option.bind_some];cases inB b 1 3<;>rfl
    ·rw [decide_eq_false h4,if_neg h4,cond_false];by_cases h5:0<=b
     ·by_cases h6:b<n
      ·simp only [h5,h6,decide_true,Bool.not_true,cond_true,cond_false,Bool.true_and];by_cases h3:o=3
       ·subst h3;simp only [decide_true,Bool.not_true,Bool.and_false,Bool.not_false,if_true,cond_true];rw [h_sTogether n es a b hl];cases decide (a=b)<;>simp only [cond_true,cond_false,Option.bind_some]<;>cases tgB n es a b<;>rfl
       ·simp only [h3,decide_false,Bool.not_false,Bool.and_true,cond_false,if_false];by_cases hab:a=b
        ·rw [decide_eq_true hab];rfl
        ·rw [decide_eq_false hab];simp only [cond_false,Option.bind_some,Bool.not_false,if_true,h_sl12Edge,w_sAddEdge n es _ hl,w_sTakeEdge n es _ hl];by_cases h2':o=2
         ·rw [decide_eq_true h2',if_pos h2',cond_true,Option.bind_some];cases h:(takR n es (edO a b)).2.2<;>simp [h]
         ·rw [decide_eq_false h2',if_neg h2',cond_false,Option.bind_some];cases h:(addR n es (edO a b)).2.2<;>simp [h]
      ·simp only [h5,h6,decide_true,decide_false,Bool.not_false,cond_true,Option.bind_some,Bool.and_false,Bool.false_and,if_false,Bool.false_eq_true]
     ·simp only [h5,decide_false,cond_false,Option.bind_some,cond_true,Bool.false_and,if_false,Bool.false_eq_true]
   ·simp only [h1,h2,decide_true,decide_false,Bool.not_true,Bool.not_false,cond_true,cond_false,Option.bind_some,Bool.and_false,if_false,Bool.false_eq_true]
  ·simp only [h1,decide_false,Bool.not_true,cond_true,cond_false,Option.bind_some,Bool.and_false,Bool.false_and,if_false,Bool.false_eq_true]
theorem h_iModel (n:Int) (es:List Ed) (i o a b:Int) (hn:n<=9223372036854775807) (hl:es.length<=1048576):g_iModel ((n,es),i,o,a,b)=some (mdl n es o a b,()):=by
 show f_iModel BIG _=_;rw [e_iModel];dsimp only;rw [h_icopyEdges es hl];simp only [Option.bind_some,h_iin'];have hx:(bif decide (o=(4:Int)) then some ((1:Int),(3:Int)) else some ((0:Int),IntKind.wrap .i64 (n-(1:Int))):Option (Int × Int))=some (if o=4 then ((1:Int),(3:Int)) else ((0:Int),IntKind.wrap .i64 (n-(1:Int)))):=by
  by_cases h:o=4
  ·rw [decide_eq_true h,if_pos h];rfl
  ·rw [decide_eq_false h,if_neg h];rfl
 rw [hx,Option.bind_some];unfold mdl;by_cases h0:n<1
 ·rw [decide_eq_true h0,cond_true,Option.bind_some,cond_true];have:(decide (0<=a)&&decide (a<n))=false:=by
   by_cases h:0<=a
   ·rw [decide_eq_false (show ¬a<n from by omega),Bool.and_false]
   ·rw [decide_eq_false h,Bool.false_and]
  rw [this,Bool.and_false];rfl
 ·rw [decide_eq_false h0,cond_false,wr (by omega) (by omega)];cases ho:inB o 1 4 with
  | false=>rfl
  | true=>
   rw [inB_t] at ho;have ha:inB a 0 (n-1)=(decide (0<=a)&&decide (a<n)):=by
    unfold inB;congr 1;exact decide_eq_decide.2 (by omega)
   have hb:inB b 0 (n-1)=(decide (0<=b)&&decide (b<n)):=by
    unfold inB;congr 1;exact decide_eq_decide.2 (by omega)
   rw [ha];simp only [Bool.not_true,cond_false,Bool.true_and];cases (decide (0<=a)&&decide (a<n)) with
   | false=>rfl
   | true=>
    simp only [Bool.not_true,cond_false,if_true];by_cases h4:o=4
    ·subst h4;simp only [if_true];cases inB b 1 3 with
     | false=>rfl
     | true=>by_cases hab:a=b<;>simp [hab]
    ·simp only [h4,if_false];rw [hb];cases (decide (0<=b)&&decide (b<n)) with
     | false=>rfl
     | true=>
      simp only [Bool.not_true,cond_false,Bool.true_and];by_cases h3:o=3
      ·subst h3;rw [h_iTogether n es a b hl];simp only [Option.bind_some,h_iyesNo];by_cases hab:a=b<;>simp [hab]
      ·by_cases h1:o=1
       ·subst h1;by_cases hab:a=b
        ·simp [hab]
        ·simp only [hab,decide_false,cond_false,Option.bind_some,decide_true,cond_true,h_iedgeOf,w_iAddEdge n es _ hl];simp;cases h:(addR n es (edO a b)).2.2<;>simp [h]
       ·have h2:o=2:=by omega
        subst h2;by_cases hab:a=b
        ·simp [hab]
        ·simp only [hab,decide_false,cond_false,Option.bind_some,decide_true,cond_true,h_iedgeOf,w_iTakeEdge n es _ hl];simp;cases h:(takR n es (edO a b)).2.2<;>simp [h]
theorem mdl_len (n:Int) (es:List Ed) (o a b:Int) (m:Nat) (hm:67<=m) (hl:es.length<=m):(mdl n es o a b).2.1.length<=m/\(mdl n es o a b).1=n:=by
 have ha:∀e,(addR n es e).2.2=true->(addR n es e).2.1.length<=67/\(addR n es e).1=n:=by
  intro e h;unfold addR at h ⊢;split at h
  ·rename_i hc;rw [if_pos hc];simp only [Bool.and_eq_true,grB] at hc;have:=eOk_len hc.1.2;have:=ins_len es e;exact ⟨by simp only;omega,rfl⟩
  ·cases h
 have ht:∀e,(takR n es e).2.2=true->(takR n es e).2.1.length<=67/\(takR n es e).1=n:=by
  intro e h;unfold takR at h ⊢;split at h
  ·rename_i hc;rw [if_pos hc];simp only [Bool.and_eq_true,grB] at hc;have:=eOk_len hc.1.2;have:=del_len es e;exact ⟨by simp only;omega,rfl⟩
  ·cases h
 unfold mdl;split
 ·split
  ·exact ⟨hl,rfl⟩
  ·split
   ·split
    ·exact ⟨hl,rfl⟩
    ·by_cases h2:o=2
     ·simp only [h2,if_true];by_cases hr:(takR n es (edO a b)).2.2=true
      ·rw [if_pos hr];have:=ht _ hr;exact ⟨by simp only;omega,this.2⟩
      ·rw [if_neg hr];exact ⟨hl,rfl⟩
     ·simp only [h2,if_false];by_cases hr:(addR n es (edO a b)).2.2=true
      ·rw [if_pos hr];have:=ha _ hr;exact ⟨by simp only;omega,this.2⟩
      ·rw [if_neg hr];exact ⟨hl,rfl⟩
   ·exact ⟨hl,rfl⟩
 ·exact ⟨hl,rfl⟩
theorem foldG {α S X B:Type} (a:List α) (hl:a.length<18446744073709551616) {F:(X->Option B)->X->Option B} (mk:S->Int->X) (I:Nat->S->Prop) (st:S->α->S) (R:S->B) {s0:S} (h0:I 0 s0)
  (hI:∀i s y,a[i]?=some y->I i s->I (i+1) (st s y)) (hF:∀self s (i:Nat) y,a[i]?=some y->I i s->F self (mk s (i:Int))=self (mk (st s y) ((i+1:Nat):Int)))
  (hE:∀self s,I a.length s->F self (mk s (a.length:Int))=some (R s)):loopT BIG F (mk s0 0)=some (R (a.foldl st s0)):=by
 have key:∀(k n i:Nat) (s:S),a.length-i<=k->k<n->i<=a.length->I i s->it F n (mk s (i:Int))=some (R ((a.drop i).foldl st s)):=by
  intro k;induction k with
  | zero=>
   intro n i s hk hn hi hs;obtain ⟨m,rfl⟩:∃m,n=m+1:=⟨n-1,by omega⟩
   have:i=a.length:=by omega
   subst this;show F (it F m) _=_;rw [hE _ _ hs];simp
  | succ k ih=>
   intro n i s hk hn hi hs;obtain ⟨m,rfl⟩:∃m,n=m+1:=⟨n-1,by omega⟩
   show F (it F m) _=_;by_cases hi':i<a.length
   ·have hy:=List.getElem?_eq_getElem hi';rw [hF _ _ _ _ hy hs,ih m (i+1) _ (by omega) (by omega) hi' (hI _ _ _ hy hs),List.drop_eq_getElem_cons hi',List.foldl_cons]
   ·have:i=a.length:=by omega
    subst this;rw [hE _ _ hs];simp
 have:=key a.length BIG 0 s0 (by omega) (by simpa [BIG] using hl) (by omega) h0;show it F BIG (mk s0 0)=_;simpa using this
theorem exitG {α S T X B:Type} (a:List α) (hl:a.length<18446744073709551616) {F:(X->Option (T ⊕ B))->X->Option (T ⊕ B)} (mk:S->Int->X) (I:Nat->S->Prop) (st:S->α->Option S) (R:S->T) (b:B) {s0:S} (h0:I 0 s0)
  (hI:∀i s s' y,a[i]?=some y->I i s->st s y=some s'->I (i+1) s') (hF:∀self s (i:Nat) y,a[i]?=some y->I i s->F self (mk s (i:Int))=match st s y with|some s'=>self (mk s' ((i+1:Nat):Int))|none=>some (.inr b))
  (hE:∀self s,I a.length s->F self (mk s (a.length:Int))=some (.inl (R s))):loopT BIG F (mk s0 0)=some (match fM st s0 a with|some s=>.inl (R s)|none=>.inr b):=by
 have key:∀(k n i:Nat) (s:S),a.length-i<=k->k<n->i<=a.length->I i s->it F n (mk s (i:Int))=some (match fM st s (a.drop i) with|some s=>.inl (R s)|none=>.inr b):=by
  intro k;induction k with
  | zero=>
   intro n i s hk hn hi hs;obtain ⟨m,rfl⟩:∃m,n=m+1:=⟨n-1,by omega⟩
   have:i=a.length:=by omega
   subst this;show F (it F m) _=_;rw [hE _ _ hs,List.drop_length];rfl
  | succ k ih=>
   intro n i s hk hn hi hs;obtain ⟨m,rfl⟩:∃m,n=m+1:=⟨n-1,by omega⟩
   show F (it F m) _=_;by_cases hi':i<a.length
   ·have hy:=List.getElem?_eq_getElem hi';rw [hF _ _ _ _ hy hs,List.drop_eq_getElem_cons hi'];cases hst:st s a[i] with
    | none=>simp only [fM,hst,Option.bind_none]
    | some s'=>
     simp only;rw [ih m (i+1) _ (by omega) (by omega) hi' (hI _ _ _ _ hy hs hst)];simp only [fM,hst,Option.bind_some]
   ·have:i=a.length:=by omega
    subst this;rw [hE _ _ hs,List.drop_length];rfl
 have:=key a.length BIG 0 s0 (by omega) (by simpa [BIG] using hl) (by omega) h0;show it F BIG (mk s0 0)=_;simpa using this
abbrev Sd6:=Int × Int × Int × Int × Int × Int
def nxF (n:Int) (es:List Ed) (y:Sd6):List Ed × Bool:=
 if y.2.2.2.2.2=3 then (es,true)
 else ((mdl n es y.2.2.1 y.2.2.2.1 y.2.2.2.2.1).2.1,decide ((mdl n es y.2.2.1 y.2.2.2.1 y.2.2.2.2.1).2.2=y.2.2.2.2.2) || decide (y.2.2.1=4))
theorem nxF_len {n:Int} {es:List Ed} {y:Sd6} (h:es.length<=67):(nxF n es y).1.length<=67:=by
 unfold nxF;split
 ·exact h
 ·exact (mdl_len n es _ _ _ 67 (by omega) h).1
def stI (n:Int) (s:Bool × Int × List Ed) (y:Sd6):Bool × Int × List Ed:=(s.1&&(nxF n s.2.2 y).2,n,(nxF n s.2.2 y).1)
def stFo (n:Int) (s:List Ed) (y:Sd6):Option (List Ed):=if (nxF n s y).2 then some (nxF n s y).1 else none
theorem h_imade (n:Int) (l:List Sd6) (hn:n<=9223372036854775807) (hl:l.length<=1048576):g_imade (n,l)=some (((l.foldl (stI n) (true,n,[])).2.1,(l.foldl (stI n) (true,n,[])).2.2,(l.foldl (stI n) (true,n,[])).1),()):=by
 have hm:maxLen=9223372036854775807:=by decide
 show f_imade BIG _=_;rw [e_imade,foldG l (by omega) (fun (s:Bool × Int × List Ed) i=>(s.1,s.2,i)) (fun _ s=>s.2.1=n/\s.2.2.length<=67) (stI n) (fun s=>(s.1,s.2)) (s0:=(true,n,[])) ⟨rfl,by simp⟩ (fun i s y _ h=>⟨rfl,nxF_len h.2⟩)]
 ·rfl
 ·rintro self ⟨ok,m,es⟩ i y hy ⟨h1,h2⟩;simp only at h1 h2;subst h1;have hi:=(List.getElem?_eq_some_iff.1 hy).1;simp only [show ((i:Int)<(l.length:Int)) from by omega,decide_true,cond_true];rw [bnd_nat hi,hy,Option.bind_some,wr1 (by omega)];unfold stI nxF;by_cases h3:y.2.2.2.2.2=3
  ·simp only [h3,decide_true,cond_true,Option.bind_some,if_true,Bool.and_true]
  ·simp only [h3,decide_false,cond_false,if_false];rw [h_iModel m es _ _ _ _ hn (by omega)];have hd:=(mdl_len m es y.2.2.1 y.2.2.2.1 y.2.2.2.2.1 67 (by omega) h2).2;simp only [Option.bind_some];cases ok with
   | false=>simp [hd]
   | true=>
    simp only [cond_true];by_cases hc:(mdl m es y.2.2.1 y.2.2.2.1 y.2.2.2.2.1).2.2=y.2.2.2.2.2<;>simp [hc,hd]
 ·intro self s _;simp
theorem h_sl15Graph (n:Int) (l:List Sd6) (hl:l.length<=1048576):g_sl15Graph (n,l)=some (match fM (stFo n) [] l with|some es=>(n,es,true)|none=>(0,[],false),()):=by
 have hm:maxLen=9223372036854775807:=by decide
 show f_sl15Graph BIG _=_;rw [e_sl15Graph,exitG l (by omega) (fun (s:List Ed) i=>(((0:Int),([]:List Ed)),(n,s),i)) (fun _ s=>s.length<=67) (stFo n) (fun s=>(((0:Int),([]:List Ed)),(n,s))) ((((0:Int),([]:List Ed)),false)) (s0:=[]) (by simp) (fun i s s' y _ h hs=>by
  unfold stFo at hs
  split at hs
  ·cases hs;exact nxF_len h
  ·cases hs)]
 ·cases fM (stFo n) [] l<;>rfl
 ·intro self es i y hy h2;have hi:=(List.getElem?_eq_some_iff.1 hy).1;simp only [show ((i:Int)<(l.length:Int)) from by omega,decide_true,cond_true];rw [bnd_nat hi,hy,Option.bind_some,wr1 (by omega)];unfold stFo nxF;by_cases h3:y.2.2.2.2.2=3
  ·simp only [h3,decide_true,cond_true,Option.bind_some,if_true]
  ·simp only [h3,decide_false,cond_false,if_false];rw [h_sModel n es _ _ _ _ (by omega)];have hd:=(mdl_len n es y.2.2.1 y.2.2.2.1 y.2.2.2.2.1 67 (by omega) h2).2;simp only [Option.bind_some];by_cases hc:(mdl n es y.2.2.1 y.2.2.2.1 y.2.2.2.2.1).2.2=y.2.2.2.2.2
   ·simp [hc,hd]
   ·by_cases h4:y.2.2.1=4
    ·simp [hc,h4,hd];rw [h4] at hd;simp [hd]
    ·simp [hc,h4]
 ·intro self s _;simp
theorem fol_eq (n:Int):∀(l:List Sd6) (b:Bool) (es:List Ed),(l.foldl (stI n) (b,n,es)).1=(b&&(fM (stFo n) es l).isSome)
 | [],b,es=>by simp [fM]
 | y::l,b,es=>by
  rw [List.foldl_cons];show (l.foldl (stI n) (b&&(nxF n es y).2,n,(nxF n es y).1)).1=_;rw [fol_eq n l];simp only [fM,stFo];cases (nxF n es y).2<;>simp
theorem h_iFollows (n:Int) (l:List Sd6) (hn:n<=9223372036854775807) (hl:l.length<=1048576):g_iFollows (n,l)=some ((fM (stFo n) [] l).isSome,()):=by
 show f_iFollows BIG _=_;rw [e_iFollows,h_imade n l hn hl,Option.bind_some];simp only [fol_eq,Bool.true_and]
theorem h_sFollows (n:Int) (l:List Sd6) (hl:l.length<=1048576):g_sFollows (n,l)=some ((fM (stFo n) [] l).isSome,()):=by
 show f_sFollows BIG _=_;rw [e_sFollows,h_sl15Graph n l hl,Option.bind_some];cases fM (stFo n) [] l<;>rfl
def by8 (n:Int):UInt8:=UInt8.ofNat (n % 256).toNat
def vF:Nat->Nat->List UInt8
 | 0,v=>[by8 (v:Int)]
 | k+1,v=>if v<=127 then [by8 (v:Int)] else by8 ((v % 128+128:Nat):Int)::vF k (v / 128)
def vB (v:Nat):List UInt8:=vF 9 v
def e2 (e:Ed):List UInt8:=[by8 e.1,by8 e.2]
theorem ansB_in {n:Int} {a:An} (h:ansB n a=true):1<=n/\n<=12/\1<=a.1/\a.1<=100000/\eOk n a.2.2.1=true/\(a.2.2.2.length:Int)=n/\lbOk n a.2.2.2=true:=by
 unfold ansB at h;simp only [Bool.and_eq_true,inB_t] at h;obtain ⟨hn,h1,h2,h3⟩:=h;have h3':=h3;unfold lbOk at h3;split at h3
 ·rename_i hl;exact ⟨hn.1,hn.2,h1.1,h1.2,h2,hl,h3'⟩
 ·cases h3
def dec:Nat->List UInt8->Option (Nat × Nat)
 | 0,_=>none
 | _+1,[]=>none
 | k+1,b::l=>if b.toNat<128 then some (b.toNat,1) else (dec k l).map fun r=>(b.toNat-128+128*r.1,r.2+1)
def rdV (l:List UInt8):Option (Nat × Nat):=match dec 5 l with
 | some (v,m)=>if v<=1000000000/\vB v=l.take m then some (v,m) else none
 | none=>none
abbrev St:=Nat × Bool
def nm (T:List UInt8) (s:St):Int × St:=
 if s.2 then (0,(s.1,true)) else match rdV (T.drop s.1) with
 | some (v,m)=>((v:Int),(s.1+m,false))
 | none=>(0,(s.1,true))
def on (T:List UInt8) (s:St):Int × St:=
 if s.2 then (0,(s.1,true)) else match T[s.1]? with
 | some b=>((b.toNat:Int),(s.1+1,false))
 | none=>(0,(s.1,true))
def edF (T:List UInt8):Nat->St->List Ed->St × List Ed
 | 0,s,out=>(s,out)
 | k+1,s,out=>if s.2 then (s,out) else edF T k (on T (on T s).2).2 (out++[((on T s).1,(on T (on T s).2).1)])
def q0 (T:List UInt8):Int × St:=nm T (0,false)
def q1 (T:List UInt8):Int × St:=on T (q0 T).2
def q2 (T:List UInt8):Int × St:=nm T (q1 T).2
def q3 (T:List UInt8) (K:Nat):St × List Ed:=edF T K (nm T (q2 T).2).2 []
def lbF (T:List UInt8):Nat->St->List Int->St × List Int
 | 0,s,out=>(s,out)
 | k+1,s,out=>lbF T k (on T s).2 (out++[(on T s).1])
def q4 (T:List UInt8) (K:Nat):St × List Ed:=edF T K (nm T (q1 T).2).2 []
def q5 (T:List UInt8) (K N:Nat):St × List Int:=lbF T N (q4 T K).1 []
theorem h_sl05SameEdges (a b:List Ed) (ha:a.length<=maxLen):g_sl05SameEdges (a,b)=some (decide (a=b),()):=by
 show f_sl05SameEdges BIG _=_;rw [e_sl05SameEdges];by_cases hl:a.length=b.length
 ·rw [decide_eq_true (by omega),Bool.not_true,cond_false,eqLoop a b ha hl false]
  ·by_cases h:a=b<;>simp [h]
  ·intro self i x y hx hy;have hi:=(List.getElem?_eq_some_iff.1 hx).1;simp only [show ((i:Int)<(a.length:Int)) from by omega,decide_true,cond_true];rw [bnd_nat hi,hx,Option.bind_some,bnd_nat (by omega),hy,Option.bind_some,wr1 (by omega)];obtain ⟨x1,x2⟩:=x;obtain ⟨y1,y2⟩:=y;by_cases h1:x1=y1<;>by_cases h2:x2=y2<;>simp [h1,h2]
  ·intro self;simp
 ·rw [decide_eq_false (by omega),Bool.not_false,cond_true,decide_eq_false (fun h=>hl (by rw [h]))]
theorem h_sl05SameInts (a b:List Int) (ha:a.length<=maxLen):g_sl05SameInts (a,b)=some (decide (a=b),()):=by
 show f_sl05SameInts BIG _=_;rw [e_sl05SameInts];by_cases hl:a.length=b.length
 ·rw [decide_eq_true (by omega),Bool.not_true,cond_false,eqLoop a b ha hl false]
  ·by_cases h:a=b<;>simp [h]
  ·intro self i x y hx hy;have hi:=(List.getElem?_eq_some_iff.1 hx).1;simp only [show ((i:Int)<(a.length:Int)) from by omega,decide_true,cond_true];rw [bnd_nat hi,hx,Option.bind_some,bnd_nat (by omega),hy,Option.bind_some,wr1 (by omega)];by_cases h1:x=y<;>simp [h1]
  ·intro self;simp
 ·rw [decide_eq_false (by omega),Bool.not_false,cond_true,decide_eq_false (fun h=>hl (by rw [h]))]
def blO (o:Or'):Bool:=decide (o.1=0)&&(decide (o.2.1=0)&&(decide (o.2.2.1.length=0)&&decide (o.2.2.2=0)))
def blQ (a b c d:Int):Bool:=decide (a=0)&&(decide (b=0)&&(decide (c=0)&&decide (d=0)))
theorem len0 {α:Type} (l:List α):decide ((l.length:Int)=0)=decide (l.length=0):=decide_eq_decide.2 (by omega)
theorem nil_dec {α:Type} [DecidableEq α] (l:List α):decide (l=[])=decide (l.length=0):=decide_eq_decide.2 List.length_eq_zero_iff.symm
abbrev Rc:=Int × Int × Int × Int × Int × Int × Int × Bool × List (Int × Int) × List Int × Int × Int × List (Int × Int) × Int
theorem askEq (a b c d:Int):(decide (a=0)&&(decide (b=0)&&(decide (c=0)&&(decide (d=0)&&true))))=blQ a b c d:=by simp [blQ]
theorem fiLoop {α:Type} (a:List α) (hl:a.length<18446744073709551616) (p:α->Bool) {F:(Int->Option (Unit ⊕ Int))->Int->Option (Unit ⊕ Int)}
  (hF:∀self (i:Nat) y,a[i]?=some y->F self (i:Int)=if p y then some (.inr (i:Int)) else self ((i+1:Nat):Int))
  (hE:∀self,F self (a.length:Int)=some (.inl ())):loopT BIG F 0=some (if a.findIdx p<a.length then .inr (a.findIdx p:Int) else .inl ()):=by
 refine loop_eq (fun (x:Int)=>∃i:Nat,x=(i:Int)/\i<=a.length/\∀j (hj:j<a.length),j<i->p a[j]=false) (fun x=>a.length-x.toNat) (fun _=>_) (fun self x ⟨i,h1,h2,h3⟩ hs => ?_) (n:=BIG) (x:=0) (by simp;exact hl) ⟨0,rfl,by simp,fun j _ hj=>by omega⟩;subst h1;by_cases hi:i<a.length
 ·rw [hF self i a[i] (List.getElem?_eq_getElem hi)];cases hp:p a[i] with
  | true=>
   have:a.findIdx p=i:=(List.findIdx_eq hi).2 ⟨hp,fun j hj=>h3 j (by omega) hj⟩;rw [if_pos rfl,this,if_pos hi]
  | false=>
   rw [if_neg (by simp)];exact hs _ ⟨i+1,rfl,hi,fun j hj hji=>by
    by_cases hj':j=i
    ·subst hj';exact hp
    ·exact h3 j hj (by omega)⟩ (by simp;omega)
 ·have he:i=a.length:=by omega
  subst he;rw [hE,if_neg];intro h;have h4:=List.findIdx_lt_length.1 h;obtain ⟨x,hx,hpx⟩:=h4;obtain ⟨j,hj,rfl⟩:=List.getElem_of_mem hx;rw [h3 j hj hj] at hpx;cases hpx
def sA (l:List Sd) (k:Int):Int:=if l.findIdx (fun y=>decide (y.1=k))<l.length then (l.findIdx (fun y=>decide (y.1=k)):Int) else -1
theorem w_isaidAt (l:List Sd) (k:Int) (hl:l.length<=1048576):g_isaidAt (l,k)=some (sA l k,()):=by
 have hm:maxLen=9223372036854775807:=by decide
 show f_isaidAt BIG _=_;rw [e_isaidAt];rw [fiLoop l (by omega) (fun y=>decide (y.1=k))]
 ·unfold sA;split<;>rfl
 ·intro self i y hy;have hi:=(List.getElem?_eq_some_iff.1 hy).1;simp only [show ((i:Int)<(l.length:Int)) from by omega,decide_true,cond_true];rw [bnd_nat hi,hy,Option.bind_some,wr1 (by omega)];cases decide (y.1=k)<;>rfl
 ·intro self;simp
theorem w_sl12Said (x0:Int) (x1:List Int) (x2:List Ed) (x3:List (List Int)) (x4:List Int) (x5 x6 x7 x8 x9 x10 x11:Int) (x12:List Ed) (x13:Int) (l:List Sd) (k:Int) (hl:l.length<=1048576):g_sl12Said ((x0,x1,x2,x3,x4,x5,x6,x7,x8,x9,x10,x11,x12,x13,l),k)=some (sA l k,()):=by
 have hm:maxLen=9223372036854775807:=by decide
 show f_sl12Said BIG _=_;rw [e_sl12Said];dsimp only;rw [fiLoop l (by omega) (fun y=>decide (y.1=k))]
 ·unfold sA;split<;>rfl
 ·intro self i y hy;have hi:=(List.getElem?_eq_some_iff.1 hy).1;simp only [show ((i:Int)<(l.length:Int)) from by omega,decide_true,cond_true];rw [bnd_nat hi,hy,Option.bind_some,wr1 (by omega)];cases decide (y.1=k)<;>rfl
 ·intro self;simp
theorem sA_take {l:List Sd} {i:Nat} {y:Sd} (h:l[i]?=some y):decide (0<=sA (l.take i) y.1) = !decide (sA l y.1=(i:Int)):=by
 obtain ⟨hi,rfl⟩:=List.getElem?_eq_some_iff.1 h;have hlt:l.findIdx (fun z=>decide (z.1=(l[i]).1))<l.length:=List.findIdx_lt_length.2 ⟨l[i],List.getElem_mem hi,by simp⟩;have hle:l.findIdx (fun z=>decide (z.1=(l[i]).1))<=i:=by
  by_cases hc:i<l.findIdx (fun z=>decide (z.1=(l[i]).1))
  ·have:=List.not_of_lt_findIdx hc;simp at this
  ·omega
 unfold sA;rw [if_pos hlt];by_cases he:l.findIdx (fun z=>decide (z.1=(l[i]).1))=i
 ·rw [if_neg]
  ·simp [he]
  ·intro hc;obtain ⟨z,hz,hp⟩:=List.findIdx_lt_length.1 hc;obtain ⟨j,hj,rfl⟩:=List.getElem_of_mem hz;rw [List.length_take] at hj;have:=List.not_of_lt_findIdx (xs:=l) (p:=fun z=>decide (z.1=(l[i]).1)) (i:=j) (by omega);rw [List.getElem_take] at hp;rw [this] at hp;cases hp
 ·have hc:(l.take i).findIdx (fun z=>decide (z.1=(l[i]).1))<(l.take i).length:=by
   refine List.findIdx_lt_length.2 ⟨l[l.findIdx (fun z=>decide (z.1=(l[i]).1))],?_,by exact List.findIdx_getElem (xs:=l) (p:=fun z=>decide (z.1=(l[i]).1)) (w:=hlt)⟩;refine List.mem_iff_getElem.2 ⟨l.findIdx (fun z=>decide (z.1=(l[i]).1)),by rw [List.length_take];omega,?_⟩;rw [List.getElem_take]
  rw [if_pos hc,decide_eq_true (by omega),decide_eq_false (by omega)];rfl
def tB (a b c d sh:Int) (o:Or'):Bool:=blQ a b c d&&(decide (sh=0)&&blO o)
theorem h_inoTask (a b c d sh:Int) (o:Or'):g_inoTask (a,b,c,d,sh,o)=some (tB a b c d sh o,()):=by
 show f_inoTask BIG _=_;rw [e_inoTask,len0];dsimp only;rw [askEq];unfold tB blO;cases blQ a b c d<;>cases decide (sh=0)<;>cases decide (o.1=0)<;>cases decide (o.2.1=0)<;>cases decide (o.2.2.1.length=0)<;>rfl
theorem h_sl12BlankTask (a b c d sh:Int) (o:Or') (h1:o.2.2.1.length<=maxLen):g_sl12BlankTask (a,b,c,d,sh,o)=some (tB a b c d sh o,()):=by
 show f_sl12BlankTask BIG _=_;rw [e_sl12BlankTask];dsimp only;rw [askEq];have h0:g_sl09SameOrder (o,((0:Int),(0:Int),[],(0:Int)))=some (blO o,()):=by
  have:g_sl09SameOrder (o,((0:Int),(0:Int),[],(0:Int)))=f_sl09SameOrder BIG (o,((0:Int),(0:Int),[],(0:Int))):=rfl;rw [this,e_sl09SameOrder];dsimp only;rw [h_sl05SameEdges _ _ h1,nil_dec];unfold blO;cases decide (o.1=0)<;>cases decide (o.2.1=0)<;>cases decide (o.2.2.1.length=0)<;>cases decide (o.2.2.2=0)<;>rfl
 rw [h0];unfold tB;cases blQ a b c d<;>cases decide (sh=0)<;>cases blO o<;>rfl
def rtB (n:Int) (k:Nat) (op a b:Int):Bool:=
 inB op 1 4&&(inB a 0 (n-1)&&(bif decide (op=4) then inB b 1 k else inB b 0 (n-1) && !(decide (a=b)&&(decide (op=1) || decide (op=2)))))
theorem h_ibadAsk (x0:Int) (x1:List Int) (x2:List Ed) (x3:List (List Int)) (x4:List Int) (x5 x6 x7 x8 x9 x10 x11:Int) (x12:List Ed) (x13:Int) (x14:List Sd) (i op a b:Int) (h0:1<=x0/\x0<=12):g_ibadAsk ((x0,x1,x2,x3,x4,x5,x6,x7,x8,x9,x10,x11,x12,x13,x14),(i,op,a,b))=some (!rtB x0 x3.length op a b,()):=by
 show f_ibadAsk BIG _=_;rw [e_ibadAsk];dsimp only;rw [wr (by omega) (by omega)];simp only [h_iin'];unfold rtB;by_cases h4:op=4
 ·subst h4;simp only [decide_true,cond_true,Option.bind_some];cases inB 4 1 4<;>cases inB a 0 (x0-1)<;>cases inB b 1 (x3.length:Int)<;>cases decide (a=b)<;>rfl
 ·simp only [h4,decide_false,cond_false,Option.bind_some];cases inB op 1 4<;>cases inB a 0 (x0-1)<;>cases inB b 0 (x0-1)<;>cases decide (a=b)<;>cases decide (op=1)<;>cases decide (op=2)<;>rfl
theorem h_sl12Right (x0:Int) (x1:List Int) (x2:List Ed) (x3:List (List Int)) (x4:List Int) (x5 x6 x7 x8 x9 x10 x11:Int) (x12:List Ed) (x13:Int) (x14:List Sd) (i op a b:Int) (h0:1<=x0/\x0<=12):g_sl12Right ((x0,x1,x2,x3,x4,x5,x6,x7,x8,x9,x10,x11,x12,x13,x14),(i,op,a,b))=some (rtB x0 x3.length op a b,()):=by
 show f_sl12Right BIG _=_;rw [e_sl12Right];dsimp only;rw [wr (by omega) (by omega)];simp only [h_sl01In'];unfold rtB;by_cases h4:op=4
 ·subst h4;simp only [decide_true,cond_true,Option.bind_some];cases inB 4 1 4<;>cases inB a 0 (x0-1)<;>cases inB b 1 (x3.length:Int)<;>rfl
 ·simp only [h4,decide_false,cond_false,Option.bind_some];by_cases h3:op=3
  ·subst h3;simp only [decide_true,cond_true,Option.bind_some];cases inB 3 1 4<;>cases inB a 0 (x0-1)<;>cases inB b 0 (x0-1)<;>cases decide (a=b)<;>rfl
  ·simp only [h3,decide_false,cond_false];cases hq:inB op 1 4 with
   | false=>rfl
   | true=>
    have:(decide (op=1) || decide (op=2))=true:=by
     rw [inB_t] at hq;by_cases op=1<;>by_cases op=2<;>simp_all<;>omega
    rw [this];cases inB a 0 (x0-1)<;>cases inB b 0 (x0-1)<;>cases decide (a=b)<;>rfl
theorem gD {α:Type} {l:List α} {i:Nat} {y d:α} (h:l[i]?=some y):l.getD i d=y:=by rw [List.getD_eq_getElem?_getD,h];rfl
def p1 (k:Nat) (l:List Int) (i:Nat):Bool:=inB (l.getD i 0) 1 k
def p2 (own:List Int) (cuts:List Ed) (i:Nat):Bool:=!decide (own.getD (cuts.getD i (0,0)).1.toNat 0=own.getD (cuts.getD i (0,0)).2.toNat 0)
def p3 (n:Int) (L:List (List Int)) (nums:List Int) (i:Nat):Bool:=lbOk n (L.getD i [])&&inB (nums.getD i 0) 0 99991
def p4c (l:List Sd) (i:Nat) (y:Sd):Bool:=decide (y.1=y.2.1)&&(inB y.2.2.2.2.2 1 3&&decide (sA l y.1=(i:Int)))
def p4 (l:List Sd) (i:Nat):Bool:=p4c l i (l.getD i (0,0,0,0,0,0))
abbrev oP1 (k:Nat) (l:List Int):Prop:=∀i,i<l.length->p1 k l i=true
abbrev oP2 (own:List Int) (cuts:List Ed):Prop:=∀i,i<cuts.length->p2 own cuts i=true
abbrev oP3 (n:Int) (L:List (List Int)) (nums:List Int):Prop:=∀i,i<L.length->p3 n L nums i=true
abbrev oP4 (l:List Sd):Prop:=∀i,i<l.length->p4 l i=true
theorem cutStep (own:List Int) (cuts:List Ed) (n:Int) (he:eOk n cuts=true) (hn:(own.length:Int)=n) {B:Type} (self:Int->Option (Unit ⊕ Bool)) (i:Nat) (y:Ed) (hy:cuts[i]?=some y) (hl:cuts.length<=1048576) :
  (bnd own.length y.1 fun n12=>
   Option.bind own[n12]? fun y13=>
   bnd own.length y.2 fun n14=>
   Option.bind own[n14]? fun y15=>
   bif decide (y13=y15) then some (Sum.inr false)
   else self (IntKind.wrap .i64 ((i:Int)+(1:Int))))=if p2 own cuts i then self ((i+1:Nat):Int) else some (.inr false):=by
 have hm:maxLen=9223372036854775807:=by decide
 have hi:=(List.getElem?_eq_some_iff.1 hy).1;subst hn;have hb:=edB_in ((eOk_srt he).1 y (List.mem_of_getElem? hy));have h1:own[y.1.toNat]?=some (own[y.1.toNat]'(by omega)):=List.getElem?_eq_getElem (by omega);have h2:own[y.2.toNat]?=some (own[y.2.toNat]'(by omega)):=List.getElem?_eq_getElem (by omega);rw [bnd_ok (by omega) (by omega),h1,Option.bind_some,bnd_ok (by omega) (by omega),h2,Option.bind_some,wr1 (by omega)];unfold p2;rw [gD hy,gD h1,gD h2];cases decide (own[y.1.toNat]'(by omega)=own[y.2.toNat]'(by omega))<;>rfl
open Classical in
noncomputable def hdB (n:Int) (own:List Int) (cuts:List Ed) (L:List (List Int)) (nums:List Int) (said:List Sd) (t:Bool):Bool:=
 decide ((inB n 1 12=true/\inB (L.length:Int) 1 3=true/\nums.length=L.length)/\oP3 n L nums/\((own.length:Int)=n/\eOk n cuts=true)/\oP1 L.length own/\oP2 own cuts/\(oP4 said/\said.length<=80)/\t=true)
def tkB (n:Int) (k:Nat) (nums:List Int) (said:List Sd) (id op a b sh:Int) (o:Or'):Bool:=
 tB id op a b sh o || ((inB id 1 100000&&(!decide (op=3)&&rtB n k op a b))&&(inB sh 1 k&&(ordB n o&&(decide (o.1=IntKind.wrap .i64 (nums.getD (sh-1).toNat 0+1))&&decide (sA said id<0)))))
theorem w_itaskOk (x0:Int) (x1:List Int) (x2:List Ed) (x3:List (List Int)) (x4:List Int) (x5 x6 x7 x8 x9 x10 x11:Int) (x12:List Ed) (x13:Int) (x14:List Sd) (h0:1<=x0/\x0<=12) (h4:x4.length=x3.length) (hk:x3.length<=3) (h12:x12.length<=1048576) (h14:x14.length<=1048576) :
  g_itaskOk (x0,x1,x2,x3,x4,x5,x6,x7,x8,x9,x10,x11,x12,x13,x14)=some (tkB x0 x3.length x4 x14 x5 x6 x7 x8 x9 (x10,x11,x12,x13),()):=by
 show f_itaskOk BIG _=_;rw [e_itaskOk];dsimp only;rw [h_inoTask x5 x6 x7 x8 x9 (x10,x11,x12,x13),Option.bind_some,h_ibadAsk _ _ _ _ _ _ _ _ _ _ _ _ _ _ _ _ _ _ _ h0];simp only [h_iin'];unfold tkB;cases tB x5 x6 x7 x8 x9 (x10,x11,x12,x13) with
 | true=>rfl
 | false=>
  simp only [cond_false,Option.bind_some,Bool.false_or];cases inB x5 1 100000 with
  | false=>rfl
  | true=>
   cases decide (x6=3) with
   | true=>rfl
   | false=>
    cases rtB x0 x3.length x6 x7 x8 with
    | false=>rfl
    | true=>
     simp only [Bool.not_true,cond_false,Option.bind_some,Bool.not_false,Bool.and_self,Bool.true_and];cases hs:inB x9 1 (x3.length:Int) with
     | false=>rfl
     | true=>
      rw [h_iOrderOk x0 (x10,x11,x12,x13) h12];simp only [cond_true,Option.bind_some,Bool.true_and];cases ordB x0 (x10,x11,x12,x13) with
      | false=>rfl
      | true=>
       rw [inB_t] at hs;have h1:x4[(x9-1).toNat]?=some (x4[(x9-1).toNat]'(by omega)):=List.getElem?_eq_getElem (by omega);rw [cond_true,wr (n:=x9-1) (by omega) (by omega),bnd_ok (by omega) (by omega),h1,Option.bind_some,gD h1,w_isaidAt x14 x5 h14];simp only [Bool.true_and];cases decide (x10=IntKind.wrap .i64 (x4[(x9-1).toNat]'(by omega)+1))<;>rfl
theorem w_sl12TaskOk (x0:Int) (x1:List Int) (x2:List Ed) (x3:List (List Int)) (x4:List Int) (x5 x6 x7 x8 x9 x10 x11:Int) (x12:List Ed) (x13:Int) (x14:List Sd) (h0:1<=x0/\x0<=12) (h4:x4.length=x3.length) (hk:x3.length<=3) (h12:x12.length<=1048576) (h14:x14.length<=1048576) :
  g_sl12TaskOk (x0,x1,x2,x3,x4,x5,x6,x7,x8,x9,x10,x11,x12,x13,x14)=some (tkB x0 x3.length x4 x14 x5 x6 x7 x8 x9 (x10,x11,x12,x13),()):=by
 have hm:maxLen=9223372036854775807:=by decide
 show f_sl12TaskOk BIG _=_;rw [e_sl12TaskOk];dsimp only;rw [h_sl12BlankTask x5 x6 x7 x8 x9 (x10,x11,x12,x13) (by simp only;omega),Option.bind_some,h_sl12Right _ _ _ _ _ _ _ _ _ _ _ _ _ _ _ _ _ _ _ h0,w_sl12Said _ _ _ _ _ _ _ _ _ _ _ _ _ _ _ _ h14];simp only [h_sl01In'];unfold tkB;cases tB x5 x6 x7 x8 x9 (x10,x11,x12,x13) with
 | true=>rfl
 | false=>
  simp only [cond_false,Option.bind_some,Bool.false_or];cases hs:inB x9 1 (x3.length:Int) with
  | false=>simp
  | true=>
   rw [h_sOrderOk x0 (x10,x11,x12,x13) h12];simp only [cond_true,Option.bind_some,Bool.true_and];cases ordB x0 (x10,x11,x12,x13) with
   | false=>simp
   | true=>
    rw [inB_t] at hs;have h1:x4[(x9-1).toNat]?=some (x4[(x9-1).toNat]'(by omega)):=List.getElem?_eq_getElem (by omega);rw [cond_true,wr (n:=x9-1) (by omega) (by omega),bnd_ok (by omega) (by omega),h1,Option.bind_some,gD h1];simp only [Bool.true_and];cases decide (x10=IntKind.wrap .i64 (x4[(x9-1).toNat]'(by omega)+1))<;>cases decide (sA x14 x5<0)<;>cases rtB x0 x3.length x6 x7 x8<;>cases decide (x6=3)<;>cases inB x5 1 100000<;>rfl
open Classical in
theorem w_iownOk (x0:Int) (x1:List Int) (x2:List Ed) (x3:List (List Int)) (x4:List Int) (x5 x6 x7 x8 x9 x10 x11:Int) (x12:List Ed) (x13:Int) (x14:List Sd) (h1:x1.length<=1048576) (h2:x2.length<=1048576) :
  g_iownOk (x0,x1,x2,x3,x4,x5,x6,x7,x8,x9,x10,x11,x12,x13,x14)=some (decide (((x1.length:Int)=x0/\eOk x0 x2=true)/\oP1 x3.length x1/\oP2 x1 x2),()):=by
 have hm:maxLen=9223372036854775807:=by decide
 show f_iownOk BIG _=_;rw [e_iownOk];dsimp only;rw [h_iedgesOk x0 x2 h2];by_cases hn:(x1.length:Int)=x0
 ·cases he:eOk x0 x2 with
  | false=>simp [hn]
  | true=>
   rw [decide_eq_true hn];simp only [Bool.not_true,cond_false,Option.bind_some];rw [allLoop x1 (by omega) (p1 x3.length x1) false]
   ·by_cases hp:oP1 x3.length x1
    ·rw [if_pos hp];simp only [Option.bind_some];rw [allLoop x2 (by omega) (p2 x1 x2) false]
     ·by_cases hq:oP2 x1 x2
      ·rw [if_pos hq,decide_eq_true (by exact ⟨⟨hn,by first|rfl|trivial|exact he⟩,hp,hq⟩)];rfl
      ·rw [if_neg hq,decide_eq_false (fun h=>hq h.2.2)];rfl
     ·intro self i y hy;have hi:=(List.getElem?_eq_some_iff.1 hy).1;simp only [show ((i:Int)<(x2.length:Int)) from by omega,decide_true,cond_true];rw [bnd_nat hi,hy,Option.bind_some];exact cutStep x1 x2 x0 he hn (B:=Unit) self i y hy h2
     ·intro self;simp
    ·rw [if_neg hp,decide_eq_false (fun h=>hp h.2.1)];rfl
   ·intro self i y hy;have hi:=(List.getElem?_eq_some_iff.1 hy).1;simp only [show ((i:Int)<(x1.length:Int)) from by omega,decide_true,cond_true];rw [bnd_nat hi,hy,Option.bind_some,h_iin',Option.bind_some,wr1 (by omega)];unfold p1;rw [gD hy];cases inB y 1 (x3.length:Int)<;>rfl
   ·intro self;simp
 ·rw [decide_eq_false hn];simp [hn]
open Classical in
theorem w_isaidOk (l:List Sd) (hl:l.length<=1048576):g_isaidOk l=some (decide (oP4 l/\l.length<=80),()):=by
 have hm:maxLen=9223372036854775807:=by decide
 show f_isaidOk BIG _=_;rw [e_isaidOk];rw [allLoop l (by omega) (p4 l) false]
 ·by_cases hp:oP4 l
  ·rw [if_pos hp];by_cases hq:l.length<=80
   ·have e:decide (oP4 l/\l.length<=80)=true:=decide_eq_true ⟨hp,hq⟩;have e2:decide ((l.length:Int)<=80)=true:=decide_eq_true (by omega);rw [e,e2];rfl
   ·have e:decide (oP4 l/\l.length<=80)=false:=decide_eq_false (fun h=>hq h.2);have e2:decide ((l.length:Int)<=80)=false:=decide_eq_false (by omega);rw [e,e2];rfl
  ·have e:decide (oP4 l/\l.length<=80)=false:=decide_eq_false (fun h=>hp h.1);rw [if_neg hp,e];rfl
 ·intro self i y hy;have hi:=(List.getElem?_eq_some_iff.1 hy).1;simp only [show ((i:Int)<(l.length:Int)) from by omega,decide_true,cond_true];rw [bnd_nat hi,hy,Option.bind_some,h_iin',wr1 (by omega),decide_eq_true (show (0:Int)<=(i:Int) from by omega),decide_eq_true (show 0<=Int.toNat (i:Int)/\Int.toNat (i:Int)<=l.length from ⟨by omega,by omega⟩),Int.toNat_natCast,Nat.sub_zero,List.drop_zero,w_isaidAt _ _ (by rw [List.length_take];omega)];simp only [cond_true,Option.bind_some];rw [sA_take hy];unfold p4;rw [gD hy];unfold p4c;cases decide (y.1=y.2.1)<;>cases inB y.2.2.2.2.2 1 3<;>cases decide (sA l y.1=(i:Int))<;>rfl
 ·intro self;simp
theorem hd_t {n:Int} {own:List Int} {cuts:List Ed} {L:List (List Int)} {nums:List Int} {said:List Sd} {t:Bool} (h:(inB n 1 12=true/\inB (L.length:Int) 1 3=true/\nums.length=L.length)/\oP3 n L nums/\((own.length:Int)=n/\eOk n cuts=true)/\oP1 L.length own/\oP2 own cuts/\(oP4 said/\said.length<=80)/\t=true):hdB n own cuts L nums said t=true:=by
 unfold hdB;exact decide_eq_true h
theorem hd_f {n:Int} {own:List Int} {cuts:List Ed} {L:List (List Int)} {nums:List Int} {said:List Sd} {t:Bool} (h:(inB n 1 12=true/\inB (L.length:Int) 1 3=true/\nums.length=L.length)/\oP3 n L nums/\((own.length:Int)=n/\eOk n cuts=true)/\oP1 L.length own/\oP2 own cuts/\(oP4 said/\said.length<=80)/\t=true->False):hdB n own cuts L nums said t=false:=by
 unfold hdB;exact decide_eq_false h
open Classical in
theorem w_iHeadOk (x0:Int) (x1:List Int) (x2:List Ed) (x3:List (List Int)) (x4:List Int) (x5 x6 x7 x8 x9 x10 x11:Int) (x12:List Ed) (x13:Int) (x14:List Sd) (h1:x1.length<=1048576) (h2:x2.length<=1048576) (h3:x3.length<=1048576/\∀y,y∈x3->y.length<=1048576) (h12:x12.length<=1048576) (h14:x14.length<=1048576) :
  g_iHeadOk (x0,x1,x2,x3,x4,x5,x6,x7,x8,x9,x10,x11,x12,x13,x14)=some (hdB x0 x1 x2 x3 x4 x14 (tkB x0 x3.length x4 x14 x5 x6 x7 x8 x9 (x10,x11,x12,x13)),()):=by
 have hm:maxLen=9223372036854775807:=by decide
 show f_iHeadOk BIG _=_;rw [e_iHeadOk];dsimp only;rw [w_iownOk _ _ _ _ _ _ _ _ _ _ _ _ _ _ _ h1 h2,w_isaidOk _ h14];simp only [h_iin'];cases ha:inB x0 1 12 with
 | false=>rw [hd_f (fun h=>by rw [ha] at h;cases h.1.1)];rfl
 | true=>
  cases hb:inB (x3.length:Int) 1 3 with
  | false=>rw [hd_f (fun h=>by rw [hb] at h;cases h.1.2.1)];rfl
  | true=>
   by_cases hc:x4.length=x3.length
   ·rw [decide_eq_true (show (x4.length:Int)=(x3.length:Int) from by omega)];simp only [Bool.not_true,cond_false,Option.bind_some];rw [allLoop x3 (by omega) (p3 x0 x3 x4) false]
    ·by_cases hp:oP3 x0 x3 x4
     ·rw [if_pos hp];have ha0:=ha;have hb0:=hb;rw [inB_t] at ha hb;rw [w_itaskOk _ _ _ _ _ _ _ _ _ _ _ _ _ _ _ ha hc (by omega) h12 h14];simp only [Option.bind_some];by_cases q1:((x1.length:Int)=x0/\eOk x0 x2=true)/\oP1 x3.length x1/\oP2 x1 x2
      ·by_cases q2:oP4 x14/\x14.length<=80
       ·cases q3:tkB x0 x3.length x4 x14 x5 x6 x7 x8 x9 (x10,x11,x12,x13) with
        | false=>rw [decide_eq_true q1,decide_eq_true q2,hd_f (fun h=>by cases h.2.2.2.2.2.2)];rfl
        | true=>rw [decide_eq_true q1,decide_eq_true q2,hd_t ⟨⟨ha0,hb0,hc⟩,hp,q1.1,q1.2.1,q1.2.2,q2,rfl⟩];rfl
       ·rw [decide_eq_true q1,decide_eq_false q2,hd_f (fun h=>q2 h.2.2.2.2.2.1)];rfl
      ·rw [decide_eq_false q1,hd_f (fun h=>q1 ⟨h.2.2.1,h.2.2.2.1,h.2.2.2.2.1⟩)];rfl
     ·rw [if_neg hp,hd_f (fun h=>hp h.2.1)];rfl
    ·intro self i y hy;have hi:=(List.getElem?_eq_some_iff.1 hy).1;have hz:x4[i]?=some (x4[i]'(by omega)):=List.getElem?_eq_getElem (by omega);simp only [show ((i:Int)<(x3.length:Int)) from by omega,decide_true,cond_true];simp only [bnd_nat hi,hy,Option.bind_some,h_ilabelsOk x0 y (h3.2 y (List.mem_of_getElem? hy)),bnd_nat (show i<x4.length from by omega),hz,wr1 (show i<maxLen from by omega)];unfold p3;rw [gD hy,gD hz];cases lbOk x0 y<;>cases inB (x4[i]'(by omega)) 0 99991<;>rfl
    ·intro self;simp
   ·rw [decide_eq_false (show ¬(x4.length:Int)=(x3.length:Int) from by omega),hd_f (fun h=>hc h.1.2.2)];rfl
open Classical in
theorem w_sHeadOk (x0 : Int) (x1 : List Int) (x2 : List Ed) (x3 : List (List Int)) (x4 : List Int) (x5 x6 x7 x8 x9 x10 x11 : Int) (x12 : List Ed) (x13 : Int) (x14 : List Sd) (h1 : x1.length ≤ 1048576) (h2 : x2.length ≤ 1048576) (h3 : x3.length ≤ 1048576 ∧ ∀ y, y ∈ x3 → y.length ≤ 1048576) (h12 : x12.length ≤ 1048576) (h14 : x14.length ≤ 1048576) :
    g_sHeadOk (x0, x1, x2, x3, x4, x5, x6, x7, x8, x9, x10, x11, x12, x13, x14) = some (hdB x0 x1 x2 x3 x4 x14 (tkB x0 x3.length x4 x14 x5 x6 x7 x8 x9 (x10, x11, x12, x13)), ()) := by
  have hm : maxLen = 9223372036854775807 := by decide
  show f_sHeadOk BIG _ = _;rw [e_sHeadOk];dsimp only;rw [h_sl05Edges x0 x2 h2];simp only [h_sl01In'];cases ha : inB x0 1 12 with
  | false => rw [hd_f (fun h => by rw [ha] at h; cases h.1.1)]; rfl
  | true =>
    cases hb : inB (x3.length : Int) 1 3 with
    | false => rw [hd_f (fun h => by rw [hb] at h; cases h.1.2.1)]; rfl
    | true =>
      by_cases hc : x4.length = x3.length
      · rw [decide_eq_true (show (x4.length : Int) = (x3.length : Int) from by omega)]
        simp only [Bool.not_true, cond_false, Option.bind_some]
        by_cases hn : (x1.length : Int) = x0
        · rw [decide_eq_true hn]
          cases he : eOk x0 x2 with
          | false => rw [hd_f (fun h => by rw [he] at h; cases h.2.2.1.2)]; rfl
          | true =>
            simp only [Bool.not_true, cond_false, Option.bind_some];by_cases hs : x14.length ≤ 80
            · rw [decide_eq_false (show ¬ (80 : Int) < (x14.length : Int) from by omega), cond_false]
              rw [allLoop x3 (by omega) (p3 x0 x3 x4) false]
              · by_cases hp : oP3 x0 x3 x4
                · rw [if_pos hp]
                  simp only [Option.bind_some]
                  have L1 := allLoop x1 (by omega) (p1 x3.length x1) false (F := fun (self16 : Int → Option (Unit ⊕ Bool)) (x15 : Int) =>
                     bif decide (x15 < x0) then
                      bnd x1.length x15 fun n17 =>
                      Option.bind x1[n17]? fun y18 =>
                      bif !inB y18 (1 : Int) (x3.length : Int) then
                       some (Sum.inr false)
                      else self16 (IntKind.wrap .i64 (x15 + (1 : Int)))
                     else some (Sum.inl ())) (by
                    intro self i y hy
                    have hi := (List.getElem?_eq_some_iff.1 hy).1
                    simp only [show ((i : Int) < x0) from by omega, decide_true, cond_true]
                    rw [bnd_nat hi, hy, Option.bind_some, wr1 (by omega)]
                    unfold p1
                    rw [gD hy]
                    cases inB y 1 (x3.length : Int) <;> rfl) (by
                    intro self
                    simp [hn])
                  rw [L1]
                  by_cases hp1 : oP1 x3.length x1
                  · rw [if_pos hp1]
                    simp only [Option.bind_some]
                    rw [allLoop x2 (by omega) (p2 x1 x2) false]
                    · by_cases hp2 : oP2 x1 x2
                      · rw [if_pos hp2]
                        simp only [Option.bind_some]
                        rw [allLoop x14 (by omega) (p4 x14) false]
                        · by_cases hp4 : oP4 x14
                          · rw [if_pos hp4]
                            have ha0 := ha
                            have hb0 := hb
                            rw [inB_t] at ha hb
                            simp only [Option.bind_some]
                            rw [w_sl12TaskOk _ _ _ _ _ _ _ _ _ _ _ _ _ _ _ ha hc (by omega) h12 h14]
                            simp only [Option.bind_some]
                            cases q3 : tkB x0 x3.length x4 x14 x5 x6 x7 x8 x9 (x10, x11, x12, x13) with
                            | false => rw [hd_f (fun h => by cases h.2.2.2.2.2.2)]
                            | true => rw [hd_t ⟨⟨ha0, hb0, hc⟩, hp, ⟨hn, he⟩, hp1, hp2, ⟨hp4, hs⟩, rfl⟩]
                          · rw [if_neg hp4, hd_f (fun h => hp4 h.2.2.2.2.2.1.1)]; rfl
                        · intro self i y hy
                          have hi := (List.getElem?_eq_some_iff.1 hy).1
                          simp only [show ((i : Int) < (x14.length : Int)) from by omega, decide_true, cond_true]
                          simp only [bnd_nat hi, hy, Option.bind_some, wr1 (show i < maxLen from by omega), w_sl12Said _ _ _ _ _ _ _ _ _ _ _ _ _ _ _ _ h14]
                          unfold p4
                          rw [gD hy]
                          unfold p4c
                          cases decide (y.1 = y.2.1) <;> cases inB y.2.2.2.2.2 1 3 <;> cases decide (sA x14 y.1 = (i : Int)) <;> rfl
                        · intro self; simp
                      · rw [if_neg hp2, hd_f (fun h => hp2 h.2.2.2.2.1)]; rfl
                    · intro self i y hy
                      have hi := (List.getElem?_eq_some_iff.1 hy).1
                      simp only [show ((i : Int) < (x2.length : Int)) from by omega, decide_true, cond_true]
                      simp only [bnd_nat hi, hy, Option.bind_some]
                      exact cutStep x1 x2 x0 he hn (B := Unit) self i y hy h2
                    · intro self; simp
                  · rw [if_neg hp1, hd_f (fun h => hp1 h.2.2.2.1)]; rfl
                · rw [if_neg hp, hd_f (fun h => hp h.2.1)]; rfl
              · intro self i y hy
                have hi := (List.getElem?_eq_some_iff.1 hy).1
                have hz : x4[i]? = some (x4[i]'(by omega)) := List.getElem?_eq_getElem (by omega)
                simp only [show ((i : Int) < (x3.length : Int)) from by omega, decide_true, cond_true]
                simp only [bnd_nat hi, hy, Option.bind_some, h_sl09Labels x0 y (h3.2 y (List.mem_of_getElem? hy)), bnd_nat (show i < x4.length from by omega), hz, wr1 (show i < maxLen from by omega)]
                unfold p3
                rw [gD hy, gD hz]
                cases lbOk x0 y <;> cases inB (x4[i]'(by omega)) 0 99991 <;> rfl
              · intro self; simp
            · rw [decide_eq_true (show (80 : Int) < (x14.length : Int) from by omega), hd_f (fun h => hs h.2.2.2.2.2.1.2)]; rfl
        · rw [decide_eq_false hn, hd_f (fun h => hn h.2.2.1.1)]; rfl
      · rw [decide_eq_false (show ¬ (x4.length : Int) = (x3.length : Int) from by omega), hd_f (fun h => hc h.1.2.2)]; rfl
abbrev Fl:=ByteArray × ByteArray × Int
theorem to_FileS (a:List Fl) (h:a.length<=1048576):g_ltoFileS a=some (a,()):=by
 have hm:maxLen=9223372036854775807:=by decide
 show f_ltoFileS BIG _=_;rw [e_ltoFileS,decide_eq_true (by omega),cond_true,decide_eq_true (by simp;omega),cond_true];simp only [Int.toNat_natCast];rw [cpLoop a (by omega)]
 ·rfl
 ·intro self out i y hl hy;have hi:=(List.getElem?_eq_some_iff.1 hy).1;simp only [show ((i:Int)<(a.length:Int)) from by omega,decide_true,cond_true];have e:g_ltoFile y=some (y,()):=by
   show f_ltoFile BIG _=_;rw [e_ltoFile]
  rw [bnd_nat hi,hy,Option.bind_some,e,Option.bind_some];rw [bnd_nat (by omega),List.getElem?_eq_getElem (by omega),Option.bind_some,wr1 (by omega)]
 ·intro self out hl;simp
theorem to_Disk (a:List Fl) (h:a.length<=1048576):g_ltoDisk a=some (a,()):=by
 show f_ltoDisk BIG _=_;rw [e_ltoDisk,to_FileS a h];rfl
theorem eq_FileS (a:List Fl) (h:a.length<=1048576):g_leqFileS (a,a)=some (true,()):=by
 have hm:maxLen=9223372036854775807:=by decide
 show f_leqFileS BIG _=_;rw [e_leqFileS,decide_eq_true rfl,Bool.not_true,cond_false,allLoop a (by omega) (fun _=>true) false]
 ·rw [if_pos (fun _ _=>rfl)];rfl
 ·intro self i y hy;have hi:=(List.getElem?_eq_some_iff.1 hy).1;have e:g_leqFile (y,y)=some (true,()):=by
   show f_leqFile BIG _=_;rw [e_leqFile];simp
  simp only [show ((i:Int)<(a.length:Int)) from by omega,decide_true,cond_true];rw [bnd_nat hi,hy,Option.bind_some,bnd_nat hi,hy,Option.bind_some,e,Option.bind_some,wr1 (by omega)];rfl
 ·intro self;simp
theorem eq_Disk (a:List Fl) (h:a.length<=1048576):g_leqDisk (a,a)=some (true,()):=by
 show f_leqDisk BIG _=_;rw [e_leqDisk,eq_FileS a h];rfl
def zFl (y:Fl):Nat:=y.1.size+y.2.1.size
def zFS (a:List Fl):Nat:=a.length+(a.map zFl).sum
theorem sz_FileS (a:List Fl) (l:Int) (h0:0<=l) (h1:l<=1048576) (ha:a.length<=maxLen/\∀y,y∈a->y.1.size<=maxLen/\y.2.1.size<=maxLen):g_lszFileS (a,l)=some (if ((zFS a:Nat):Int)<=l then l-(zFS a:Nat) else -1,()):=by
 have hm:maxLen=9223372036854775807:=by decide
 have h2:=ha.1;show f_lszFileS BIG _=_;rw [e_lszFileS,wr (by omega) (by omega)];unfold zFS;by_cases h:((a.length:Nat):Int)<=l
 ·rw [decide_eq_false (by omega),cond_false,szLoop a zFl (-1) (l-a.length) (by omega) (by omega) (by omega)]
  ·by_cases hq:((a.map zFl).sum:Int)<=l-a.length
   ·rw [if_pos hq,if_pos (by omega)];simp only [Option.bind_some];rw [show l-(a.length:Int)-((a.map zFl).sum:Nat)=l-((a.length+(a.map zFl).sum:Nat):Int) from by omega]
   ·rw [if_neg hq,if_neg (by omega)];rfl
  ·intro self i l y hy l0 l1;have hi:=(List.getElem?_eq_some_iff.1 hy).1;have hb:=ha.2 y (List.mem_of_getElem? hy);simp only [show ((i:Int)<(a.length:Int)) from by omega,decide_true,cond_true];have e:g_lszFile (y,l)=some (if (zFl y:Int)<=l then l-zFl y else -1,()):=by
    show f_lszFile BIG _=_;rw [e_lszFile,wr (n:=l-(y.1.size:Int)) (by omega) (by omega)];unfold zFl;by_cases c1:l-(y.1.size:Int)<0
    ·rw [decide_eq_true c1,if_neg (by omega)];rfl
    ·rw [decide_eq_false c1,cond_false,wr (n:=l-(y.1.size:Int)-(y.2.1.size:Int)) (by omega) (by omega)];by_cases c2:l-(y.1.size:Int)-(y.2.1.size:Int)<0
     ·rw [decide_eq_true c2,if_neg (by omega)];rfl
     ·rw [decide_eq_false c2,if_pos (by omega),cond_false,show l-(y.1.size:Int)-(y.2.1.size:Int)=l-((y.1.size+y.2.1.size:Nat):Int) from by omega]
   rw [bnd_nat hi,hy,Option.bind_some,e,Option.bind_some];by_cases c:(zFl y:Int)<=l
   ·rw [if_pos c,if_pos c,decide_eq_false (by omega),cond_false,wr1 (by omega)]
   ·rw [if_neg c,if_neg c];rfl
  ·intro self l;simp
 ·rw [decide_eq_true (by omega),cond_true,if_neg (by omega)]
theorem sz_Disk (a:List Fl) (l:Int) (h0:0<=l) (h1:l<=1048576) (ha:a.length<=maxLen/\∀y,y∈a->y.1.size<=maxLen/\y.2.1.size<=maxLen):g_lszDisk (a,l)=some (if ((zFS a:Nat):Int)<=l then l-(zFS a:Nat) else -1,()):=by
 show f_lszDisk BIG _=_;rw [e_lszDisk,sz_FileS a l h0 h1 ha,Option.bind_some];by_cases c:((zFS a:Nat):Int)<=l
 ·rw [if_pos c,decide_eq_false (by omega),cond_false]
 ·rw [if_neg c];rfl
theorem fM_all {S α:Type} (p:α->Bool) (f:S->α->S):∀(l:List α) (s:S),fM (fun s y=>if p y=true then some (f s y) else none) s l=if l.all p=true then some (l.foldl f s) else none
 | [],s=>by simp [fM]
 | y::l,s=>by
  rw [fM];cases hp:p y with
  | false=>simp [hp]
  | true=>simp only [if_true,Option.bind_some,fM_all p f l,List.all_cons,hp,Bool.true_and,List.foldl_cons]
def wlV (l:List Int):List Ed:=l.zipIdx.map fun p=>(p.1,(p.2:Int))
def vP (l:List Int):Bool:=l.zipIdx.all fun p=>inB p.1 0 (p.2:Int)
def pL (n:Int) (l:List Int):Bool:=decide ((l.length:Int)=n)&&vP l
def wlB (n:Int) (L:List (List Int)) (cuts:List Ed):Bool:=inB n 1 12&&(decide (L.length<=3)&&(L.all (pL n)&&cuts.all (edB n)))
def wlR (n:Int) (L:List (List Int)) (cuts:List Ed):List Int × Bool:=if wlB n L cuts=true then (labs n.toNat (L.flatMap wlV++cuts),true) else ([],false)
theorem zip_at {l:List Int} {i:Nat} {p:Int × Nat} (h:l.zipIdx[i]?=some p):l[i]?=some p.1/\p.2=i:=by
 rw [List.getElem?_zipIdx] at h;cases hl:l[i]? with
 | none=>rw [hl] at h;simp at h
 | some x=>rw [hl] at h;simp at h;subst h;simp
theorem vP_in {n:Nat} {l:List Int} (hl:l.length=n) (h:vP l=true):EIn n (wlV l):=by
 intro e he;obtain ⟨p,hp,rfl⟩:=List.mem_map.1 he;obtain ⟨i,hi,rfl⟩:=List.getElem_of_mem hp;have h1:=List.all_eq_true.1 h _ hp;obtain ⟨h2,h3⟩:=zip_at (List.getElem?_eq_getElem hi);rw [inB_t] at h1;rw [List.length_zipIdx] at hi;refine ⟨h1.1,?_,?_,?_⟩<;>(simp only;omega)
theorem foldl_flat {α β S:Type} (f:α->List β) (g:S->β->S):∀(L:List α) (s:S),L.foldl (fun s l=>(f l).foldl g s) s=(L.flatMap f).foldl g s
 | [],s=>rfl
 | l::L,s=>by simp only [List.foldl_cons,List.flatMap_cons,List.foldl_append,foldl_flat f g L]
theorem unE_fold_len (E:List Ed) (s:List Int):(E.foldl unE s).length=s.length:=by
 induction E generalizing s with
 | nil=>rfl
 | cons e E ih=>rw [List.foldl_cons,ih,unE_len]
theorem w_iWholeLabels (n:Int) (L:List (List Int)) (cuts:List Ed) (hL:L.length<=1048576) (hc:cuts.length<=1048576):g_iWholeLabels (n,L,cuts)=some (wlR n L cuts,()):=by
 have hm:maxLen=9223372036854775807:=by decide
 show f_iWholeLabels BIG _=_;rw [e_iWholeLabels,h_iin'];unfold wlR wlB;cases hn:inB n 1 12 with
 | false=>rfl
 | true=>
  rw [inB_t] at hn;obtain ⟨k,rfl⟩:∃k:Nat,n=(k:Int):=⟨n.toNat,by omega⟩
  by_cases h3:L.length<=3;case neg=>rw [decide_eq_false h3];simp only [Option.bind_some,Bool.not_true,cond_false];rw [decide_eq_true (by omega)];rfl
  rw [decide_eq_true h3];simp only [Option.bind_some,Bool.not_true,cond_false,Bool.true_and];rw [decide_eq_false (show ¬(3:Int)<(L.length:Int) from by omega),cond_false,h_ifirst k (by omega),Option.bind_some];rw [exitLoop L (by omega) (fun _ (s:List Int)=>s.length=k) (fun s l=>if pL k l=true then some ((wlV l).foldl unE s) else none) (([],false):List Int × Bool) (lab0_len k) (fun i s y s' hy hs he=>by
   split at he
   ·cases he;rw [unE_fold_len];exact hs
   ·cases he) (fun self s i y hy hs => ?_) (fun self s hs=>by simp)]
  ·rw [fM_all];cases hall:L.all (pL k) with
   | false=>rfl
   | true=>
    simp only [if_true,Option.bind_some,foldl_flat,Bool.true_and];rw [exitLoop cuts (by omega) (fun _ (s:List Int)=>s.length=k) (fun s e=>if edB k e=true then some (unE s e) else none) (([],false):List Int × Bool) (by rw [unE_fold_len];exact lab0_len k) (fun i s y s' hy hs he=>by
     split at he
     ·cases he;rw [unE_len];exact hs
     ·cases he) (fun self s i y hy hs => ?_) (fun self s hs=>by simp)]
    ·rw [fM_all];cases hcall:cuts.all (edB k) with
     | false=>rfl
     | true=>
      simp only [if_true,Option.bind_some,Int.toNat_natCast];unfold labs;rw [List.foldl_append]
    ·have hi:=(List.getElem?_eq_some_iff.1 hy).1;simp only [show ((i:Int)<(cuts.length:Int)) from by omega,decide_true,cond_true];rw [bnd_nat hi,hy,Option.bind_some,h_iEdgeOk,wr1 (by omega)];cases he:edB k y with
     | false=>rfl
     | true=>
      have hin:=edB_in he;simp only [Option.bind_some,Bool.not_true,cond_false,if_true];rw [h_iunion s y.1 y.2 hin.1 (by omega) hin.2.2.1 (by omega) (by omega)];rfl
  ·have hi:=(List.getElem?_eq_some_iff.1 hy).1;simp only [show ((i:Int)<(L.length:Int)) from by omega,decide_true,cond_true];rw [bnd_nat hi,hy,Option.bind_some,wr1 (by omega)];by_cases hlen:(y.length:Int)=(k:Int)
   case neg=>unfold pL;rw [decide_eq_false hlen];rfl
   rw [decide_eq_true hlen,Bool.not_true,cond_false];have hz:(y.zipIdx).length=y.length:=List.length_zipIdx;have hlz:(((y.length:Nat):Int))=((y.zipIdx.length:Nat):Int):=by rw [hz]
   rw [exitLoop y.zipIdx (by omega) (fun _ (s:List Int)=>s.length=k) (fun s p=>if inB p.1 0 (p.2:Int)=true then some (unE s (p.1,(p.2:Int))) else none) (([],false):List Int × Bool) hs (fun i s y s' hy hs he=>by
    split at he
    ·cases he;rw [unE_len];exact hs
    ·cases he) (fun self s j p hp hs => ?_) (fun self s hs=>by simp only [hz,show ¬((y.length:Int)<(y.length:Int)) from by omega,decide_false,cond_false])]
   ·rw [fM_all];have e1:pL k y=vP y:=by unfold pL;rw [decide_eq_true hlen,Bool.true_and]
    rw [e1];unfold vP wlV;cases y.zipIdx.all fun p=>inB p.1 0 (p.2:Int) with
    | false=>rfl
    | true=>simp only [if_true,Option.bind_some,List.foldl_map]
   ·obtain ⟨hp1,hp2⟩:=zip_at hp;have hj:=(List.getElem?_eq_some_iff.1 hp1).1;obtain ⟨x,v⟩:=p;simp only at hp1 hp2;subst hp2;simp only [show ((v:Int)<(y.length:Int)) from by omega,decide_true,cond_true];rw [bnd_nat hj,hp1,Option.bind_some,h_iin',wr1 (by omega)];cases hx:inB x 0 (v:Int) with
    | false=>rfl
    | true=>
     rw [inB_t] at hx;simp only [Option.bind_some,Bool.not_true,cond_false,if_true];rw [h_iunion s x (v:Int) hx.1 (by omega) (by omega) (by omega) (by omega)];rfl
end Go.Fw
