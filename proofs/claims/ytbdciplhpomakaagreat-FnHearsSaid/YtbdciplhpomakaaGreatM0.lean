/- What the given functions come to. No conditions. -/
import Derived.Test.YtbdciplhpomakaaGreatX3
import Derived.IntWalk
set_option linter.unusedVariables false
set_option linter.unusedSimpArgs false
set_option linter.unusedSectionVars false
namespace Go.Fw
theorem pM {X B:Type} {F:(X->Option B)->X->Option B} (I:X->Prop) (μ:X->Nat) (Q:X->B->Prop)
  (h:∀self x,I x->(∀y,I y->μ y<μ x->∃b,self y=some b/\Q y b)->∃b,F self x=some b/\Q x b):∀{n:Nat} {x:X},μ x<n->I x->∃b,aJ n F x=some b/\Q x b
 | 0,_,hn,_=>absurd hn (Nat.not_lt_zero _)
 | n+1,x,hn,hi=>h (it F n) x hi fun _ hy hm=>pM I μ Q h (n:=n) (by omega) hy
theorem ik {X B:Type} {F:(X->Option B)->X->Option B} (I:X->Prop) (μ:X->Nat) (R:X->B)
  (h:∀self x,I x->(∀y,I y->μ y<μ x->self y=some (R y))->F self x=some (R x)) {n:Nat} {x:X} (hn:μ x<n) (hi:I x):aJ n F x=some (R x):=by
 obtain ⟨b,h1,h2⟩:=pM (F:=F) I μ (fun x b=>b=R x) (fun self x hx hs=>⟨_,h self x hx fun y hy hm=>by obtain ⟨b,h1,h2⟩:=hs y hy hm;rw [h1,h2],rfl⟩) hn hi;rw [h1,h2]
theorem wr {n:Int} (h : -9223372036854775808<=n) (h':n<=9223372036854775807):IntKind.wrap .i64 n=n:=by
 rw [IntKind.wrap_i64];omega
theorem bE {i:Nat} (h:i<maxLen):IntKind.wrap .i64 ((i:Int)+1)=((i+1:Nat):Int):=by
 have:maxLen=9223372036854775807:=by decide
 rw [wr (by omega) (by omega)];rfl
theorem bG {B:Type} {len:Nat} {i:Int} {k:Nat->Option B} (h:0<=i) (h':i<len):bnd len i k=k i.toNat:=by
 unfold bnd;rw [if_pos ⟨h,by omega⟩]
theorem aD {B:Type} {len:Nat} {i:Nat} {k:Nat->Option B} (h':i<len):bnd len (i:Int) k=k i:=by
 rw [bG (Int.natCast_nonneg i) (by omega)];simp
theorem iL {α B:Type} (a:List α) (hl:a.length<18446744073709551616) {F:(Int->Option (Unit ⊕ B))->Int->Option (Unit ⊕ B)} (p:Nat->Bool) (b:B)
  (hF:∀self (i:Nat) y,a[i]?=some y->F self (i:Int)=if p i then self ((i+1:Nat):Int) else some (.inr b))
  (hE:∀self,F self (a.length:Int)=some (.inl ())):aJ BIG F 0=some (if ∀i,i<a.length->p i=true then .inl () else .inr b):=by
 have hh:=pM (F:=F) (fun x=>∃i:Nat,x=i/\i<=a.length) (fun x=>a.length-x.toNat) (fun x r=>((∀i:Nat,x<=(i:Int)->i<a.length->p i=true)/\r = .inl ())\/((∃i:Nat,i<a.length/\p i=false)/\r = .inr b)) (fun self x ⟨i,h1,h2⟩ hs => ?_) (n:=BIG) (x:=0) (by simp;exact hl) ⟨0,rfl,by simp⟩
 ·obtain ⟨r,hr,hq⟩:=hh;rw [hr];congr 1;rcases hq with ⟨h1,rfl⟩|⟨⟨i,h1,h2⟩,rfl⟩
  ·rw [if_pos fun i hi=>h1 i (by omega) hi]
  ·rw [if_neg];intro h;rw [h i h1] at h2;cases h2
 ·subst h1;by_cases hi:i<a.length
  ·rw [hF self i a[i] (aO hi)];cases hp:p i with
   | true=>
    rw [if_pos rfl];obtain ⟨r,hr,hq⟩:=hs _ ⟨i+1,rfl,hi⟩ (by simp;omega);refine ⟨r,hr,?_⟩;rcases hq with ⟨h1,rfl⟩|h1
    ·refine .inl ⟨fun k hk hk' => ?_,rfl⟩;by_cases h:k=i
     ·subst h;exact hp
     ·exact h1 k (by omega) hk'
    ·exact .inr h1
   | false=>exact ⟨_,rfl,.inr ⟨⟨i,hi,hp⟩,rfl⟩⟩
  ·have:i=a.length:=by omega
   subst this;exact ⟨_,hE self,.inl ⟨fun k hk hk'=>by omega,rfl⟩⟩
theorem YG:maxLen<18446744073709551616:=by decide
theorem ab5 {α B:Type} [DecidableEq α] (a b:List α) (hl:a.length<=maxLen) (hab:a.length=b.length) {F:(Int->Option (Unit ⊕ B))->Int->Option (Unit ⊕ B)} (r:B)
  (hF:∀self (i:Nat) x y,a[i]?=some x->b[i]?=some y->F self (i:Int)=if x=y then self ((i+1:Nat):Int) else some (.inr r))
  (hE:∀self,F self (a.length:Int)=some (.inl ())):aJ BIG F 0=some (if a=b then .inl () else .inr r):=by
 rw [iL a (Nat.lt_of_le_of_lt hl YG) (fun i=>decide (a[i]?=b[i]?)) r (fun self i y hy => ?_) hE]
 ·congr 1;by_cases h:a=b
  ·subst h;simp
  ·rw [if_neg h,if_neg];intro h';apply h;apply List.ext_getElem? fun i => ?_
   by_cases hi:i<a.length
   ·simpa using h' i hi
   ·rw [List.getElem?_eq_none (by omega),List.getElem?_eq_none (by omega)]
 ·have hi:=(aT hy).1;have hb:b[i]?=some (b[i]'(by omega)):=aO (by omega);rw [hF self i y _ hy hb,hy,hb];simp
theorem gT {α S B:Type} (a:List α) (hl:a.length<18446744073709551616) {F:(S × Int->Option B)->S × Int->Option B} (I:Nat->S->Prop) (st:S->α->S) (R:S->B) {s0:S} (h0:I 0 s0)
  (hI:∀i s y,a[i]?=some y->I i s->I (i+1) (st s y)) (hF:∀self s (i:Nat) y,a[i]?=some y->I i s->F self (s,(i:Int))=self (st s y,((i+1:Nat):Int)))
  (hE:∀self s,I a.length s->F self (s,(a.length:Int))=some (R s)):aJ BIG F (s0,0)=some (R (a.foldl st s0)):=by
 have:=ik (F:=F) (fun x=>∃i:Nat,x.2=i/\i<=a.length/\I i x.1) (fun x=>a.length-x.2.toNat) (fun x=>R ((a.drop x.2.toNat).foldl st x.1)) (fun self x ⟨i,h1,h2,h3⟩ hs => ?_) (n:=BIG) (x:=(s0,0)) (by simp;exact hl) ⟨0,rfl,by simp,h0⟩
 ·simpa using this
 ·obtain ⟨s,j⟩:=x;simp only at h1 h2 h3;subst h1;by_cases hi:i<a.length
  ·have hy:=aO hi;rw [hF self s i a[i] hy h3,hs _ ⟨i+1,rfl,hi,hI _ _ _ hy h3⟩ (by simp;omega)];simp only [gq];rw [List.drop_eq_getElem_cons hi,List.foldl_cons]
  ·have:i=a.length:=by omega
   subst this;rw [hE self s h3];simp
theorem Zb {α:Type} {a t:List α} {i:Nat} {z:α} (ht:t.length=a.length) (hi:i<a.length) (hz:t[i]?=some z):(t.take i++a.drop i).set i z=t.take (i+1)++a.drop (i+1):=by
 have hi':i<t.length:=by omega
 rw [aO hi',aK] at hz;subst hz;rw [List.set_append_right _ _ (by simp;omega),List.drop_eq_getElem_cons hi,show i-(t.take i).length=0 from by simp;omega,List.set_cons_zero,List.take_succ_eq_append_getElem hi',List.append_assoc];rfl
inductive Con (E:List (Int × Int)):Int->Int->Prop
 | refl (v:Int):Con E v v
 | fwd {u v w:Int}:Con E u v->(v,w)∈E->Con E u w
 | bwd {u v w:Int}:Con E u v->(w,v)∈E->Con E u w
theorem Con.trans {E:List (Int × Int)} {u v w:Int} (h:Con E u v) (h':Con E v w):Con E u w:=by
 induction h' with
 | refl=>exact h
 | fwd _ he ih=>exact .fwd ih he
 | bwd _ he ih=>exact .bwd ih he
theorem Con.symm {E:List (Int × Int)} {u v:Int} (h:Con E u v):Con E v u:=by
 induction h with
 | refl=>exact .refl _
 | fwd _ he ih=>exact Con.trans (.bwd (.refl _) he) ih
 | bwd _ he ih=>exact Con.trans (.fwd (.refl _) he) ih
theorem Con.mono {E E':List (Int × Int)} (hE:∀e,e∈E->e∈E') {u v:Int} (h:Con E u v):Con E' u v:=by
 induction h with
 | refl=>exact .refl _
 | fwd _ he ih=>exact .fwd ih (hE _ he)
 | bwd _ he ih=>exact .bwd ih (hE _ he)
theorem Con.of {E:List (Int × Int)} {u v:Int} (h:(u,v)∈E):Con E u v:=.fwd (.refl _) h
theorem Con.sub {E E':List (Int × Int)} (hE:∀e,e∈E->Con E' e.1 e.2) {u v:Int} (h:Con E u v):Con E' u v:=by
 induction h with
 | refl=>exact .refl _
 | fwd _ he ih=>exact ih.trans (hE _ he)
 | bwd _ he ih=>exact ih.trans (hE _ he).symm
theorem Con.nil {u v:Int} (h:Con [] u v):u=v:=by
 induction h with
 | refl=>rfl
 | fwd _ he _=>cases he
 | bwd _ he _=>cases he
theorem Con.snoc {E:List (Int × Int)} {a b u v:Int}:Con (E++[(a,b)]) u v↔Con E u v\/(Con E u a/\Con E b v)\/(Con E u b/\Con E a v):=by
 constructor
 ·intro h;induction h with
  | refl=>exact .inl (.refl _)
  | fwd _ he ih=>
   rcases List.mem_append.1 he with h1|h1
   ·rcases ih with h|⟨h,h'⟩|⟨h,h'⟩
    ·exact .inl (.fwd h h1)
    ·exact .inr (.inl ⟨h,.fwd h' h1⟩)
    ·exact .inr (.inr ⟨h,.fwd h' h1⟩)
   ·cases List.mem_singleton.1 h1;rcases ih with h|⟨h,h'⟩|⟨h,h'⟩
    ·exact .inr (.inl ⟨h,.refl _⟩)
    ·exact .inr (.inl ⟨h,.refl _⟩)
    ·exact .inl h
  | bwd _ he ih=>
   rcases List.mem_append.1 he with h1|h1
   ·rcases ih with h|⟨h,h'⟩|⟨h,h'⟩
    ·exact .inl (.bwd h h1)
    ·exact .inr (.inl ⟨h,.bwd h' h1⟩)
    ·exact .inr (.inr ⟨h,.bwd h' h1⟩)
   ·cases List.mem_singleton.1 h1;rcases ih with h|⟨h,h'⟩|⟨h,h'⟩
    ·exact .inr (.inr ⟨h,.refl _⟩)
    ·exact .inl h
    ·exact .inr (.inr ⟨h,.refl _⟩)
 ·have hm:∀{x y:Int},Con E x y->Con (E++[(a,b)]) x y:=fun h=>h.mono fun e he=>List.mem_append_left _ he
  have hab:Con (E++[(a,b)]) a b:=.of (List.mem_append_right _ (List.mem_singleton.2 rfl));rintro (h|⟨h,h'⟩|⟨h,h'⟩)
  ·exact hm h
  ·exact (hm h).trans (hab.trans (hm h'))
  ·exact (hm h).trans (hab.symm.trans (hm h'))
def jX (n:Nat) (E:List (Int × Int)):Prop:=∀e,e∈E->0<=e.1/\e.1<n/\0<=e.2/\e.2<n
theorem Con.range {n:Nat} {E:List (Int × Int)} (hE:jX n E) {u v:Int} (h:Con E u v) (hu:0<=u/\u<n):0<=v/\v<n:=by
 induction h with
 | refl=>exact hu
 | fwd _ he _=>exact ⟨(hE _ he).2.2.1,(hE _ he).2.2.2⟩
 | bwd _ he _=>exact ⟨(hE _ he).1,(hE _ he).2.1⟩
def Lab (n:Nat) (E:List (Int × Int)) (l:List Int):Prop:=
 l.length=n/\∀(v:Nat) (x:Int),l[v]?=some x->Con E v x/\0<=x/\∀u:Int,0<=u->Con E v u->x<=u
theorem Lab.le {n:Nat} {E:List (Int × Int)} {l:List Int} (h:Lab n E l) {v:Nat} {x:Int} (hx:l[v]?=some x):x<=v:=
 (h.2 v x hx).2.2 v (Int.natCast_nonneg v) (.refl _)
theorem Lab.lt {n:Nat} {E:List (Int × Int)} {l:List Int} (h:Lab n E l) {v:Nat} {x:Int} (hx:l[v]?=some x):0<=x/\x<n:=by
 have h1:=h.le hx;have h2:=(aT hx).1;have h3:=(h.2 v x hx).2.1;have h4:=h.1;omega
theorem Lab.iff {n:Nat} {E:List (Int × Int)} {l:List Int} (h:Lab n E l) {u v:Nat} {x y:Int} (hx:l[u]?=some x) (hy:l[v]?=some y):x=y↔Con E u v:=by
 have h1:=h.2 u x hx;have h2:=h.2 v y hy;constructor
 ·intro e;subst e;exact h1.1.trans h2.1.symm
 ·intro c;have a:=h1.2.2 y h2.2.1 (c.trans h2.1);have b:=h2.2.2 x h1.2.1 (c.symm.trans h1.1);omega
theorem Lab.self {n:Nat} {E:List (Int × Int)} {l:List Int} (h:Lab n E l) {v:Nat} {x:Int} (hx:l[v]?=some x):l[x.toNat]?=some x:=by
 have h1:=h.lt hx;have hi:x.toNat<l.length:=by rw [h.1];omega
 rw [aO hi];have h2:=h.2 v x hx;have hc:Con E (x.toNat:Int) v:=by rw [Int.toNat_of_nonneg h1.1];exact h2.1.symm
 rw [(h.iff (aO hi) hx).2 hc]
theorem Lab.uniq {n:Nat} {E E':List (Int × Int)} {l l':List Int} (h:Lab n E l) (h':Lab n E' l') (hc:∀u v:Int,Con E u v↔Con E' u v):l=l':=by
 apply List.ext_getElem?;intro i;by_cases hi:i<n
 ·have e1:l[i]?=some (l[i]'(by rw [h.1];exact hi)):=aO _;have e2:l'[i]?=some (l'[i]'(by rw [h'.1];exact hi)):=aO _;rw [e1,e2];have h1:=h.2 i _ e1;have h2:=h'.2 i _ e2;have a:=h1.2.2 _ h2.2.1 ((hc _ _).2 h2.1);have b:=h2.2.2 _ h1.2.1 ((hc _ _).1 h1.1);congr 1;omega
 ·rw [List.getElem?_eq_none (by rw [h.1];omega),List.getElem?_eq_none (by rw [h'.1];omega)]
def pO (n:Nat):List Int:=(List.range n).map fun (i:Nat)=>(i:Int)
theorem RI {n v:Nat} {x:Int} (h:(pO n)[v]?=some x):v<n/\x=v:=by
 have hi:=(aT h).1;simp only [pO,List.length_map,List.length_range] at hi;simp only [pO,List.getElem?_map,List.getElem?_range hi,Option.map_some,aK] at h;exact ⟨hi,h.symm⟩
theorem Am (n:Nat):(pO n).length=n:=by simp [pO]
theorem Lab.zero (n:Nat):Lab n [] (pO n):=by
 refine ⟨Am n,fun v x h => ?_⟩;obtain ⟨_,rfl⟩:=RI h;exact ⟨.refl _,Int.natCast_nonneg v,fun u _ h=>by rw [h.nil];exact Int.le_refl _⟩
def unL (l:List Int) (x y:Int):List Int:=l.map fun z=>if z=(if y > x then y else x) then (if y<x then y else x) else z
theorem afB (l:List Int) (x y:Int):(unL l x y).length=l.length:=by simp [unL]
theorem ab7 (l:List Int) (x:Int):unL l x x=l:=by
 unfold unL;conv=>rhs;rw [<-List.map_id l]
 apply List.map_congr_left;intro z _;simp only [gt_iff_lt,Int.lt_irrefl,if_false,id];split<;>simp_all
theorem Lab.union {n:Nat} {E:List (Int × Int)} {l:List Int} (h:Lab n E l) {a b:Nat} {x y:Int} (hx:l[a]?=some x) (hy:l[b]?=some y):Lab n (E++[((a:Int),(b:Int))]) (unL l x y):=by
 refine ⟨by rw [afB,h.1],fun v z hz => ?_⟩;simp only [unL,List.getElem?_map,Option.map_eq_some_iff] at hz;obtain ⟨w,hw,hz⟩:=hz;have hax:=h.2 a x hx;have hby:=h.2 b y hy;have hvw:=h.2 v w hw;have ew:∀{c:Nat} {t:Int},l[c]?=some t->(w=t↔Con E v c):=fun hc=>h.iff hw hc
 have hA:=ew hx;have hB:=ew hy;have hab:Con (E++[((a:Int),(b:Int))]) a b:=.of (List.mem_append_right _ (List.mem_singleton.2 rfl));have hm:∀{s t:Int},Con E s t->Con (E++[((a:Int),(b:Int))]) s t:=fun h=>h.mono fun e he=>List.mem_append_left _ he
 by_cases hxy:x=y
 ·subst hxy;have hcab:Con E a b:=(h.iff hx hy).1 rfl;have:z=w:=by
   subst hz;simp only [gt_iff_lt,Int.lt_irrefl,if_false];split<;>simp_all
  subst this;refine ⟨hm hvw.1,hvw.2.1,fun u hu hc => ?_⟩;apply hvw.2.2 u hu;rcases Con.snoc.1 hc with h1|⟨h1,h2⟩|⟨h1,h2⟩
  ·exact h1
  ·exact h1.trans (hcab.trans h2)
  ·exact h1.trans (hcab.symm.trans h2)
 ·have key:∀u:Int,0<=u->Con (E++[((a:Int),(b:Int))]) v u->(w<=u)\/(w=x/\y<=u)\/(w=y/\x<=u):=by
   intro u hu hc;rcases Con.snoc.1 hc with h1|⟨h1,h2⟩|⟨h1,h2⟩
   ·exact .inl (hvw.2.2 u hu h1)
   ·exact .inr (.inl ⟨hA.2 h1,hby.2.2 u hu h2⟩)
   ·exact .inr (.inr ⟨hB.2 h1,hax.2.2 u hu h2⟩)
  by_cases hwx:w=x
  ·have hva:=hA.1 hwx;subst hwx;by_cases hlt:y > w
   ·rw [if_pos hlt,if_neg (by omega)] at hz;subst hz;refine ⟨hm hvw.1,hvw.2.1,fun u hu hc => ?_⟩;rcases key u hu hc with h1|h1|h1<;>omega
   ·rw [if_neg hlt,if_pos rfl,if_pos (by omega)] at hz;subst hz;refine ⟨(hm hva).trans (hab.trans (hm hby.1)),hby.2.1,fun u hu hc => ?_⟩;rcases key u hu hc with h1|h1|h1<;>omega
  ·by_cases hwy:w=y
   ·have hvb:=hB.1 hwy;subst hwy;by_cases hlt:w > x
    ·rw [if_pos hlt,if_pos rfl,if_neg (by omega)] at hz;subst hz;refine ⟨(hm hvb).trans (hab.symm.trans (hm hax.1)),hax.2.1,fun u hu hc => ?_⟩;rcases key u hu hc with h1|h1|h1<;>omega
    ·rw [if_neg hlt,if_neg hwx] at hz;subst hz;refine ⟨hm hvw.1,hvw.2.1,fun u hu hc => ?_⟩;rcases key u hu hc with h1|h1|h1<;>omega
   ·rw [if_neg (by split<;>omega)] at hz;subst hz;refine ⟨hm hvw.1,hvw.2.1,fun u hu hc => ?_⟩;rcases key u hu hc with h1|h1|h1<;>omega
def unE (l:List Int) (e:Int × Int):List Int:=unL l (l.getD e.1.toNat 0) (l.getD e.2.toNat 0)
theorem aoF (l:List Int) (e:Int × Int):(unE l e).length=l.length:=afB _ _ _
theorem Lab.unE {n:Nat} {E:List (Int × Int)} {l:List Int} (h:Lab n E l) {e:Int × Int} (he:0<=e.1/\e.1<n/\0<=e.2/\e.2<n):Lab n (E++[e]) (unE l e):=by
 have h1:e.1.toNat<l.length:=by rw [h.1];omega
 have h2:e.2.toNat<l.length:=by rw [h.1];omega
 have:=h.union (a:=e.1.toNat) (b:=e.2.toNat) (aO h1) (aO h2);rw [Int.toNat_of_nonneg he.1,Int.toNat_of_nonneg he.2.2.1] at this;unfold Go.Fw.unE;rw [bJ,bJ,aO h1,aO h2];exact this
theorem Lab.fold {n:Nat}:∀{D E:List (Int × Int)} {l:List Int},Lab n E l->jX n D->Lab n (E++D) (D.foldl Go.Fw.unE l)
 | [],E,l,h,_=>by simpa using h
 | e::D,E,l,h,hD=>by
  have:=Lab.fold (D:=D) (h.unE (hD e (List.mem_cons_self ..))) fun x hx=>hD x (List.mem_cons_of_mem _ hx)
  rw [List.foldl_cons];rwa [List.append_assoc] at this
def labs (n:Nat) (E:List (Int × Int)):List Int:=E.foldl unE (pO n)
theorem iM {n:Nat} {E:List (Int × Int)} (h:jX n E):Lab n E (labs n E):=by
 have:=(Lab.zero n).fold h;simpa [labs] using this
theorem bZ (n:Nat) (E:List (Int × Int)):(labs n E).length=n:=by
 have:∀(E:List (Int × Int)) (l:List Int),(E.foldl unE l).length=l.length:=by
  intro E;induction E with
  | nil=>simp
  | cons e E ih=>intro l;rw [List.foldl_cons,ih,aoF]
 rw [labs,this,Am]
def rlE (l:List Int) (e:Int × Int):List Int:=
 let x:=l.getD e.1.toNat 0
 let y:=l.getD e.2.toNat 0
 let l:=if x<y then l.set e.2.toNat x else l
 if y<x then l.set e.1.toNat y else l
theorem afC (l:List Int) (e:Int × Int):(rlE l e).length=l.length:=by
 unfold rlE;simp only;split<;>split<;>simp
def lrnd (E:List (Int × Int)) (l:List Int):List Int:=E.foldl rlE l
theorem ab8:∀(E:List (Int × Int)) (l:List Int),(lrnd E l).length=l.length
 | [],l=>rfl
 | e::E,l=>by show (lrnd E (rlE l e)).length=_;rw [ab8 E,afC]
section
variable {n:Nat} {E:List (Int × Int)} {L:List Int}
def Dn (n:Nat) (E:List (Int × Int)) (l:List Int):Prop:=l.length=n/\∀(v:Nat) (x:Int),l[v]?=some x->Con E v x/\0<=x
theorem Dn.ge (hL:Lab n E L) {l:List Int} (h:Dn n E l) {v:Nat} {x y:Int} (hx:l[v]?=some x) (hy:L[v]?=some y):y<=x:=
 (hL.2 v y hy).2.2 x (h.2 v x hx).2 (h.2 v x hx).1
theorem Dn.set {l:List Int} (h:Dn n E l) {v:Nat} {x:Int} (hc:Con E v x) (h0:0<=x):Dn n E (l.set v x):=by
 refine ⟨by simp [h.1],fun u y hu => ?_⟩;rw [List.getElem?_set] at hu;split at hu
 ·subst v;split at hu
  ·cases hu;exact ⟨hc,h0⟩
  ·cases hu
 ·exact h.2 u y hu
theorem getD_at {l:List Int} {i:Nat} (h:i<l.length):l[i]?=some (l.getD i 0):=by
 rw [bJ,aO h];rfl
theorem Dn.rlE (hL:Lab n E L) {l:List Int} (h:Dn n E l) {e:Int × Int} (hm:e∈E) (he:0<=e.1/\e.1<n/\0<=e.2/\e.2<n) :
  Dn n E (rlE l e)/\(∀(v:Nat),(rlE l e).getD v 0<=l.getD v 0) /\
  (l.getD e.1.toNat 0=L.getD e.1.toNat 0->(rlE l e).getD e.2.toNat 0=L.getD e.2.toNat 0) /\
  (l.getD e.2.toNat 0=L.getD e.2.toNat 0->(rlE l e).getD e.1.toNat 0=L.getD e.1.toNat 0):=by
 obtain ⟨h1,h2,h3,h4⟩:=he;have i1:e.1.toNat<l.length:=by rw [h.1];omega
 have i2:e.2.toNat<l.length:=by rw [h.1];omega
 have j1:e.1.toNat<L.length:=by rw [hL.1];omega
 have j2:e.2.toNat<L.length:=by rw [hL.1];omega
 have c12:Con E (e.1.toNat:Int) (e.2.toNat:Int):=by
  rw [Int.toNat_of_nonneg h1,Int.toNat_of_nonneg h3];exact .of hm
 have hLe:=(hL.iff (getD_at j1) (getD_at j2)).2 c12;have a1:=h.2 _ _ (getD_at i1);have a2:=h.2 _ _ (getD_at i2);have g1:=h.ge hL (getD_at i1) (getD_at j1);have g2:=h.ge hL (getD_at i2) (getD_at j2);have gs:∀(i:Nat) (z:Int) (v:Nat),i<l.length->(l.set i z).getD v 0=if i=v then z else l.getD v 0:=by
  intro i z v hi;rw [bJ,List.getElem?_set];split
  ·subst v;simp
  ·rw [bJ]
 unfold Go.Fw.rlE;simp only;by_cases hlt:l.getD e.1.toNat 0<l.getD e.2.toNat 0
 ·rw [if_pos hlt,if_neg (by omega)];refine ⟨h.set (c12.symm.trans a1.1) a1.2,fun v => ?_,fun hd => ?_,fun hd => ?_⟩
  ·rw [gs _ _ _ i2];split
   ·subst v;omega
   ·exact Int.le_refl _
  ·rw [gs _ _ _ i2,if_pos rfl];omega
  ·omega
 ·rw [if_neg hlt];by_cases hgt:l.getD e.2.toNat 0<l.getD e.1.toNat 0
  ·rw [if_pos hgt];refine ⟨h.set (c12.trans a2.1) a2.2,fun v => ?_,fun hd => ?_,fun hd => ?_⟩
   ·rw [gs _ _ _ i1];split
    ·subst v;omega
    ·exact Int.le_refl _
   ·omega
   ·rw [gs _ _ _ i1,if_pos rfl];omega
  ·rw [if_neg hgt];refine ⟨h,fun v=>Int.le_refl _,fun hd => ?_,fun hd => ?_⟩<;>omega
theorem Dn.rnd (hL:Lab n E L) (hE:jX n E):∀(D:List (Int × Int)) (l:List Int),(∀e,e∈D->e∈E)->Dn n E l ->
  Dn n E (lrnd D l)/\(∀v:Nat,(lrnd D l).getD v 0<=l.getD v 0) /\
  ∀e,e∈D->(l.getD e.1.toNat 0=L.getD e.1.toNat 0->(lrnd D l).getD e.2.toNat 0=L.getD e.2.toNat 0)/\(l.getD e.2.toNat 0=L.getD e.2.toNat 0->(lrnd D l).getD e.1.toNat 0=L.getD e.1.toNat 0)
 | [],l,_,h=>⟨h,fun v=>Int.le_refl _,fun e he=>by cases he⟩
 | e::D,l,hs,h=>by
  have hm:=hs e (List.mem_cons_self ..)
  obtain ⟨h1,h2,h3,h4⟩:=h.rlE hL hm (hE e hm)
  obtain ⟨k1,k2,k3⟩:=Dn.rnd hL hE D (Go.Fw.rlE l e) (fun x hx=>hs x (List.mem_cons_of_mem _ hx)) h1
  -- what is done stays done
  have dn:∀{l':List Int} (v:Nat),v<n->Dn n E l'->(∀u:Nat,l'.getD u 0<=l.getD u 0)->l.getD v 0=L.getD v 0->l'.getD v 0=L.getD v 0:=by
   intro l' v hv hl' hle hd;have hg:=hl'.ge hL (getD_at (l:=l') (i:=v) (by rw [hl'.1];exact hv)) (getD_at (l:=L) (i:=v) (by rw [hL.1];exact hv));have:=hle v;omega
  have dn':∀(v:Nat),v<n->(Go.Fw.rlE l e).getD v 0=L.getD v 0->(Go.Fw.lrnd D (Go.Fw.rlE l e)).getD v 0=L.getD v 0:=by
   intro v hv hd
   have hg:=k1.ge hL (getD_at (i:=v) (by rw [k1.1];exact hv)) (getD_at (l:=L) (i:=v) (by rw [hL.1];exact hv))
   have:=k2 v
   omega
  refine ⟨k1,fun v=>Int.le_trans (k2 v) (h2 v),fun e' he' => ?_⟩
  rcases List.mem_cons.1 he' with rfl|he'
  ·have hb:=hE _ hm
   exact ⟨fun hd=>dn' _ (by omega) (h3 hd),fun hd=>dn' _ (by omega) (h4 hd)⟩
  ·have hb:=hE _ (hs e' (List.mem_cons_of_mem _ he'))
   exact ⟨fun hd=>(k3 e' he').1 (dn _ (by omega) h1 h2 hd),fun hd=>(k3 e' he').2 (dn _ (by omega) h1 h2 hd)⟩
def M0 (n:Nat) (L l:List Int):Nat:=(List.range n).countP fun v=>decide (l.getD v 0=L.getD v 0)
theorem YH {p q:Nat->Bool}:∀{m:List Nat},(∀x,x∈m->p x=true->q x=true)->(∃x,x∈m/\p x=false/\q x=true)->m.countP p<m.countP q
 | [],_,⟨x,hx,_⟩=>by cases hx
 | a::m,h,⟨x,hx,hp,hq⟩=>by
  rw [List.countP_cons,List.countP_cons];have hle:m.countP p<=m.countP q:=List.countP_mono_left fun y hy=>h y (List.mem_cons_of_mem _ hy)
  rcases List.mem_cons.1 hx with rfl|hx
  ·rw [if_neg (by simp [hp]),if_pos hq];omega
  ·have:=YH (fun y hy=>h y (List.mem_cons_of_mem _ hy)) ⟨x,hx,hp,hq⟩;have ha:=h a (List.mem_cons_self ..);cases hpa:p a with
   | true=>rw [ha hpa];simp;omega
   | false=>cases hqa:q a<;>simp<;>omega
theorem ab9 {D:Int->Prop} {u v:Int} (h:Con E u v) (hu:D u) (hv:¬D v):∃x y:Int,D x/\¬D y/\((x,y)∈E\/(y,x)∈E):=by
 induction h with
 | refl=>exact absurd hu hv
 | @fwd a b _ he ih=>
  by_cases hb:D a
  ·exact ⟨_,_,hb,hv,.inl he⟩
  ·exact ih hb
 | @bwd a b _ he ih=>
  by_cases hb:D a
  ·exact ⟨_,_,hb,hv,.inr he⟩
  ·exact ih hb
def IZ (E:List (Int × Int)):Nat->List Int->List Int
 | 0,l=>l
 | k+1,l=>IZ E k (Go.Fw.lrnd E l)
theorem YI (hL:Lab n E L) (hE:jX n E) {l:List Int} (h:Dn n E l) (hs:∀v:Nat,v<n->L.getD v 0=v->l.getD v 0=v) (hne:l≠L) :
  M0 n L l<M0 n L (Go.Fw.lrnd E l):=by
 obtain ⟨k1,k2,k3⟩:=Dn.rnd hL hE E l (fun _ h=>h) h;have stay:∀v:Nat,v<n->l.getD v 0=L.getD v 0->(Go.Fw.lrnd E l).getD v 0=L.getD v 0:=by
  intro v hv hd;have hg:=k1.ge hL (getD_at (i:=v) (by rw [k1.1];exact hv)) (getD_at (l:=L) (i:=v) (by rw [hL.1];exact hv));have:=k2 v;omega
 have:∃v:Nat,v<n/\l.getD v 0≠L.getD v 0:=by
  apply Classical.byContradiction;intro hn;apply hne;apply List.ext_getElem?;intro i;by_cases hi:i<n
  ·rw [getD_at (l:=l) (i:=i) (by rw [h.1];exact hi),getD_at (l:=L) (i:=i) (by rw [hL.1];exact hi)];congr 1;exact Classical.byContradiction fun hc=>hn ⟨i,hi,hc⟩
  ·rw [List.getElem?_eq_none (by rw [h.1];omega),List.getElem?_eq_none (by rw [hL.1];omega)]
 obtain ⟨v,hv,hnd⟩:=this;have gL:=getD_at (l:=L) (i:=v) (by rw [hL.1];exact hv);have hm:=hL.lt gL;have hself:=hL.self gL;have hcon:=(hL.2 v _ gL).1;obtain ⟨x,y,hx,hy,he⟩:=ab9 (D:=fun z:Int=>0<=z/\z<n/\l.getD z.toNat 0=L.getD z.toNat 0) hcon.symm
  ⟨hm.1,hm.2,by
   have e1:L.getD (L.getD v 0).toNat 0=L.getD v 0:=by rw [bJ (i:=(L.getD v 0).toNat),hself];rfl
   rw [e1,hs (L.getD v 0).toNat (by omega) (by rw [e1];omega)];omega⟩
  (fun hd=>hnd (by simpa using hd.2.2))
 refine YH (fun z hz hp => ?_) ⟨y.toNat,?_,?_,?_⟩
 ·simp only [decide_eq_true_eq] at hp ⊢;exact stay z (List.mem_range.1 hz) hp
 ·rw [List.mem_range];rcases he with he|he<;>have:=hE _ he<;>simp only at this<;>omega
 ·simp only [decide_eq_false_iff_not];intro hd;apply hy;rcases he with he|he<;>have:=hE _ he<;>simp only at this<;>exact ⟨by omega,by omega,hd⟩
 ·simp only [decide_eq_true_eq];rcases he with he|he
  ·exact (k3 _ he).1 hx.2.2
  ·exact (k3 _ he).2 hx.2.2
theorem YJ (hL:Lab n E L) (hE:jX n E):∀(k:Nat) (l:List Int),Dn n E l->(∀v:Nat,v<n->L.getD v 0=v->l.getD v 0=v)->n<=M0 n L l+k->IZ E k l=L
 | 0,l,h,hs,hc=>by
  have hall:M0 n L l=n:=by
   have:M0 n L l<=(List.range n).length:=List.countP_le_length;rw [List.length_range] at this;omega
  apply Classical.byContradiction
  intro hne
  have:=YI hL hE h hs hne
  have:M0 n L (Go.Fw.lrnd E l)<=(List.range n).length:=List.countP_le_length
  rw [List.length_range] at this
  omega
 | k+1,l,h,hs,hc=>by
  obtain ⟨k1,k2,_⟩:=Dn.rnd hL hE E l (fun _ h=>h) h
  refine YJ hL hE k (Go.Fw.lrnd E l) k1 (fun v hv e => ?_) ?_
  ·have hg:=k1.ge hL (getD_at (i:=v) (by rw [k1.1];exact hv)) (getD_at (l:=L) (i:=v) (by rw [hL.1];exact hv))
   have:=k2 v
   have:=hs v hv e
   omega
  ·by_cases hne:l=L
   ·subst hne
    have:M0 n l (Go.Fw.lrnd E l)=n:=by
     unfold M0
     rw [show n=(List.range n).length from by simp,<-List.length_range (n:=n),List.countP_eq_length.2]
     ·simp
     ·intro v hv
      simp only [List.length_range,List.mem_range] at hv
      simp only [decide_eq_true_eq]
      have hg:=k1.ge hL (getD_at (i:=v) (by rw [k1.1];exact hv)) (getD_at (l:=l) (i:=v) (by rw [hL.1];exact hv))
      have:=k2 v
      omega
    omega
   ·have:=YI hL hE h hs hne
    omega
theorem ah5 (hE:jX n E):IZ E n (pO n)=labs n E:=by
 refine YJ (iM hE) hE n (pO n) ⟨Am n,fun v x h => ?_⟩ (fun v hv e => ?_) (by omega)
 ·obtain ⟨_,rfl⟩:=RI h;exact ⟨.refl _,Int.natCast_nonneg v⟩
 ·have:=getD_at (l:=pO n) (i:=v) (by rw [Am];exact hv);exact (RI this).2
end
theorem RJ (a b c:Int):bf (a,b,c)=some (decide (b<=a)&&decide (a<=c),()):=by
 show QI BIG _=_;rw [al7];cases decide (b<=a)<;>rfl
theorem anE (a b c:Int):fq (a,b,c)=some (decide (b<=a)&&decide (a<=c),()):=by
 show ahz BIG _=_;rw [ara];cases decide (b<=a)<;>rfl
abbrev Ed:=Int × Int
def Ao (own:List Int) (s:Int) (y:Ed):Bool:=(decide (0<=y.1)&&decide (y.1<own.length)&&decide (own[y.1.toNat]?=some s))&&(decide (0<=y.2)&&decide (y.2<own.length)&&decide (own[y.2.toNat]?=some s))
theorem afD (own:List Int) (h:own.length<=1048576) (v s:Int):NT (own,v,s)=some (decide (0<=v)&&decide (v<own.length)&&decide (own[v.toNat]?=some s),()):=by
 show Wq BIG _=_;rw [aoz,anE,aa,wr (by omega) (by omega)];by_cases h0:0<=v
 ·by_cases h1:v<own.length
  ·have hi:v.toNat<own.length:=by omega
   rw [ah h0,ah h1,ah (by omega)];simp only [Bool.and_self,af];rw [bG h0 h1,aO hi];simp
  ·rw [ah h0,au h1,au (by omega)];rfl
 ·rw [au h0];rfl
theorem jv {α:Type} (p:α->Bool):∀(l:List α) (s:List α),l.foldl (fun s y=>if p y then s++[y] else s) s=s++l.filter p
 | [],s=>by simp
 | y::l,s=>by
  rw [List.foldl_cons,jv p l];cases h:p y<;>simp [h]
theorem akC (own:List Int) (es:List Ed) (s:Int) (h:own.length<=1048576) (he:es.length<=1048576):MJ (own,es,s)=some (es.filter (Ao own s),()):=by
 have hm:maxLen=9223372036854775807:=by decide
 show MI BIG _=_;rw [akv,gT es (by omega) (fun i (c:List Ed)=>c.length<=i) (fun c y=>if Ao own s y then c++[y] else c) id (by simp) (fun i c y _ (h:c.length<=i)=>by show List.length (if _ then _ else _)<=_;split<;>(try simp)<;>omega)]
 ·rw [jv];rfl
 ·intro self c i y hy (hc:c.length<=i);have hi:=(aT hy).1;simp only [show ((i:Int)<(es.length:Int)) from by omega,decide_true,af];rw [aD hi,hy,aa,afD _ h,aa,afD _ h,bE (by omega)];unfold Ao;cases decide (0<=y.1)&&decide (y.1<own.length)&&decide (own[y.1.toNat]?=some s)<;>cases decide (0<=y.2)&&decide (y.2<own.length)&&decide (own[y.2.toNat]?=some s)<;>simp [show c.length+1<=4294967296 from by omega]
 ·intro self c hc;simp
theorem akD (own:List Int) (es:List Ed) (s:Int) (h:own.length<=1048576) (he:es.length<=1048576):Lh (own,es,s)=some (es.filter (Ao own s),()):=by
 have hm:maxLen=9223372036854775807:=by decide
 show Lg BIG _=_;rw [aj6,gT es (by omega) (fun i (c:List Ed)=>c.length<=i) (fun c y=>if Ao own s y then c++[y] else c) id (by simp) (fun i c y _ (h:c.length<=i)=>by show List.length (if _ then _ else _)<=_;split<;>(try simp)<;>omega)]
 ·rw [jv];rfl
 ·intro self c i y hy (hc:c.length<=i);have hi:=(aT hy).1;simp only [show ((i:Int)<(es.length:Int)) from by omega,decide_true,af];rw [aD hi,hy,aa,RJ,aa,RJ,aa,bE (by omega),wr (by omega) (by omega)];unfold Ao;by_cases a1:0<=y.1
  ·by_cases a2:y.1<own.length
   ·by_cases b1:0<=y.2
    ·by_cases b2:y.2<own.length
     ·have k1:y.1.toNat<own.length:=by omega
      have k2:y.2.toNat<own.length:=by omega
      rw [bG a1 a2,bG b1 b2,aO k1,aO k2];by_cases c1:own[y.1.toNat]=s<;>by_cases c2:own[y.2.toNat]=s<;>simp [a1,a2,b1,b2,c1,c2,show y.1<=(own.length:Int)-1 from by omega,show y.2<=(own.length:Int)-1 from by omega,show c.length+1<=4294967296 from by omega]
     ·have:¬y.2<=(own.length:Int)-1:=by omega
      simp [a1,a2,b1,b2,this]
    ·simp [a1,a2,b1]
   ·have:¬y.1<=(own.length:Int)-1:=by omega
    simp [a1,a2,this]
  ·simp [a1]
 ·intro self c hc;simp
abbrev Sd:=Int × Int × Int × Int × Int × Int
def aV (a b c:Int):Bool:=decide (b<=a)&&decide (a<=c)
theorem bX (a b c:Int):bf (a,b,c)=some (aV a b c,()):=RJ a b c
theorem jw (a b c:Int):fq (a,b,c)=some (aV a b c,()):=anE a b c
theorem aQ {a b c:Int}:aV a b c=true↔b<=a/\a<=c:=by simp [aV]
def dh (n:Int) (e:Ed):Bool:=aV n 1 12&&(aV e.1 0 (n-1)&&(aV e.2 0 (n-1)&&decide (e.1<e.2)))
theorem YK (n:Int) (e:Ed):Bi (n,e)=some (dh n e,()):=by
 show LX BIG _=_;rw [akf,jw,aa];unfold dh;cases h:aV n 1 12 with
 | false=>rfl
 | true=>
  have:=aQ.1 h;rw [wr (by omega) (by omega)];simp only [jw,aa,af,Bool.true_and];cases aV e.1 0 (n-1)<;>cases aV e.2 0 (n-1)<;>rfl
theorem Bq (n:Int) (e:Ed):qg (n,e)=some (dh n e,()):=by
 show Kz BIG _=_;rw [ajP,bX,aa];unfold dh;cases h:aV n 1 12 with
 | false=>rfl
 | true=>
  have:=aQ.1 h;rw [wr (by omega) (by omega)];simp only [bX,aa,af,Bool.true_and];cases aV e.1 0 (n-1)<;>cases aV e.2 0 (n-1)<;>rfl
def lsB (x y:Ed):Bool:=decide (x.1<y.1) || (decide (x.1=y.1)&&decide (x.2<y.2))
theorem RL (x y:Ed):uL (x,y)=some (lsB x y,()):=by
 show Q0 BIG _=_;rw [amc];unfold lsB;cases decide (x.1<y.1)<;>cases decide (x.1=y.1)<;>rfl
theorem I1 (x y:Ed):qR (x,y)=some (lsB x y,()):=by
 show F9 BIG _=_;rw [agS];unfold lsB;cases decide (x.1<y.1)<;>cases decide (x.1=y.1)<;>rfl
def eP (n:Int) (es:List Ed) (i:Nat):Bool:=match es[i]? with
 | some y=>dh n y&&(match i with
  | 0=>true
  | j+1=>match es[j]? with
   | some x=>lsB x y
   | none=>false)
 | none=>false
theorem ah6 {n:Int} {es:List Ed} {y:Ed} (h:es[0]?=some y):eP n es 0=dh n y:=by
 unfold eP;rw [h];simp
theorem ah7 {n:Int} {es:List Ed} {x y:Ed} {j:Nat} (h:es[j+1]?=some y) (h':es[j]?=some x):eP n es (j+1)=(dh n y&&lsB x y):=by
 unfold eP;rw [h];simp only [h']
def iT (n:Int) (es:List Ed):Bool:=if ∀i,i<es.length->eP n es i=true then decide ((es.length:Int)<=66) else false
theorem jk {n:Int} {es:List Ed} (h:iT n es=true):es.length<=66:=by
 unfold iT at h;split at h
 ·rw [decide_eq_true_eq] at h;omega
 ·cases h
theorem xS (n:Int) (es:List Ed) (hl:es.length<=1048576):nC (n,es)=some (iT n es,()):=by
 have hm:maxLen=9223372036854775807:=by decide
 show HY BIG _=_;rw [ahB,iL es (by omega) (eP n es) false]
 ·unfold iT;split<;>rfl
 ·intro self i y hy;have hi:=(aT hy).1;simp only [show ((i:Int)<(es.length:Int)) from by omega,decide_true,af];rw [aD hi,hy,aa,YK,bE (by omega)];cases i with
  | zero=>
   rw [ah6 hy];cases dh n y<;>simp
  | succ j=>
   have hj:es[j]?=some (es[j]'(by omega)):=aO (by omega);rw [ah7 hy hj,show (((j+1:Nat):Int)-1)=(j:Int) from by omega,wr (n:=(j:Int)) (by omega) (by omega)];cases hb:dh n y with
   | false=>simp
   | true=>
    simp only [aa,bu,ak,show (0:Int)<((j+1:Nat):Int) from by omega,decide_true,af,Bool.true_and];rw [aD (by omega),hj];simp only [aa];simp only [aa,RL];cases lsB _ y<;>rfl
 ·intro self;simp
theorem vG (n:Int) (es:List Ed) (hl:es.length<=1048576):lJ (n,es)=some (iT n es,()):=by
 have hm:maxLen=9223372036854775807:=by decide
 show Cb BIG _=_;rw [ac8,iL es (by omega) (eP n es) false]
 ·unfold iT;split<;>rfl
 ·intro self i y hy;have hi:=(aT hy).1;simp only [show ((i:Int)<(es.length:Int)) from by omega,decide_true,af];rw [aD hi,hy,aa,Bq,bE (by omega)];cases i with
  | zero=>
   rw [ah6 hy];cases dh n y<;>simp
  | succ j=>
   have hj:es[j]?=some (es[j]'(by omega)):=aO (by omega);rw [ah7 hy hj,show (((j+1:Nat):Int)-1)=(j:Int) from by omega,wr (n:=(j:Int)) (by omega) (by omega)];cases hb:dh n y with
   | false=>simp
   | true=>
    simp only [aa,bu,ak,show (0:Int)<((j+1:Nat):Int) from by omega,decide_true,af,Bool.true_and];rw [aD (by omega),hj];simp only [aa];rw [aD hi,hy];simp only [aa,I1];cases lsB _ y<;>rfl
 ·intro self;simp
abbrev xh:=Int × Int × List (Int × Int) × Int
def mW (n:Int) (o:xh):Bool:=aV n 1 12&&(aV o.1 1 100000&&(aV o.2.1 1 4&&(iT n o.2.2.1&&(if o.2.1=3 then decide (o.2.2.1.length=0)&&aV o.2.2.2 0 (n-1) else if o.2.1=4 then decide (0<o.2.2.1.length)&&decide (o.2.2.2=0) else decide (o.2.2.1.length=1)&&decide (o.2.2.2=0)))))
theorem UV (n:Int) (o:xh) (hl:o.2.2.1.length<=1048576):xH (n,o)=some (mW n o,()):=by
 show Gz BIG _=_;rw [ag8];simp only [bX,vG n _ hl,aa];unfold mW;cases h:aV n 1 12 with
 | false=>rfl
 | true=>
  have:=aQ.1 h;rw [wr (by omega) (by omega)];cases h1:aV o.1 1 100000 with
  | false=>rfl
  | true=>
   cases h2:aV o.2.1 1 4 with
   | false=>rfl
   | true=>
    cases h3:iT n o.2.2.1 with
    | false=>rfl
    | true=>
     simp only [bu,ak,aa,Bool.true_and];by_cases k3:o.2.1=3
     ·rw [if_pos k3,ah k3,af];by_cases hz:o.2.2.1.length=0
      ·rw [ah hz,ah (by omega)];rfl
      ·rw [au hz,au (by omega)];rfl
     ·rw [if_neg k3,au k3,ak];by_cases k4:o.2.1=4
      ·rw [if_pos k4,ah k4,af];by_cases hz:0<o.2.2.1.length
       ·rw [ah hz,ah (by omega)];rfl
       ·rw [au hz,au (by omega)];rfl
      ·rw [if_neg k4,au k4,ak];by_cases hz:o.2.2.1.length=1
       ·rw [ah hz,ah (by omega)];rfl
       ·rw [au hz,au (by omega)];rfl
theorem UW (n:Int) (o:xh) (hl:o.2.2.1.length<=1048576):xM (n,o)=some (mW n o,()):=by
 show H6 BIG _=_;rw [ahG];simp only [jw,xS n _ hl,aa];unfold mW;cases h:aV n 1 12 with
 | false=>rfl
 | true=>
  have:=aQ.1 h;rw [wr (by omega) (by omega)];cases h1:aV o.1 1 100000 with
  | false=>rfl
  | true=>
   cases h3:iT n o.2.2.1 with
   | false=>simp
   | true=>
    simp only [bu,ak,aa,Bool.true_and];by_cases k3:o.2.1=3
    ·have h2:aV o.2.1 1 4=true:=aQ.2 (by omega);rw [h2,if_pos k3,ah k3];rw [au (by omega:¬o.2.1=1),au (by omega:¬o.2.1=2)];by_cases hz:o.2.2.1.length=0
     ·rw [ah hz,ah (show (o.2.2.1.length:Int)=0 from by omega)];by_cases hv:o.2.2.2=0<;>simp [hv]
     ·rw [au hz,au (show ¬(o.2.2.1.length:Int)=0 from by omega)];by_cases hv:o.2.2.2=0<;>simp [hv]
    ·rw [if_neg k3,au k3];by_cases hv:o.2.2.2=0
     ·simp only [hv,decide_true,bu,ak,aa,Bool.and_true];by_cases k4:o.2.1=4
      ·have h2:aV o.2.1 1 4=true:=aQ.2 (by omega);rw [h2,if_pos k4,ah k4,au (by omega:¬o.2.1=1),au (by omega:¬o.2.1=2)];simp
      ·rw [if_neg k4,au k4];by_cases k1:o.2.1=1
       ·have h2:aV o.2.1 1 4=true:=aQ.2 (by omega);rw [h2,ah k1];simp;omega
       ·by_cases k2:o.2.1=2
        ·have h2:aV o.2.1 1 4=true:=aQ.2 (by omega);rw [h2,au k1,ah k2];simp;omega
        ·have h2:aV o.2.1 1 4=false:=by
          cases hh:aV o.2.1 1 4 with
          | false=>rfl
          | true=>have:=aQ.1 hh;omega
         rw [h2,au k1,au k2];rfl
     ·simp [hv]
def UX (l:List Int) (i:Nat):Bool:=match l[i]? with
 | some y=>aV y 0 i&&(match l[y.toNat]? with
  | some z=>decide (z=y)
  | none=>false)
 | none=>false
theorem akE {l:List Int} {i:Nat} {y z:Int} (h:l[i]?=some y) (h':l[y.toNat]?=some z):UX l i=(aV y 0 i&&decide (z=y)):=by
 unfold UX;rw [h];simp only [h']
theorem anF {l:List Int} {i:Nat} {y:Int} (h:l[i]?=some y) (h':aV y 0 i=false):UX l i=false:=by
 unfold UX;rw [h];simp only [h',Bool.false_and]
def mX (n:Int) (l:List Int):Bool:=if (l.length:Int)=n then (if ∀i,i<l.length->UX l i=true then true else false) else false
theorem PZ (n:Int) (l:List Int) (hl:l.length<=1048576):vw (n,l)=some (mX n l,()):=by
 have hm:maxLen=9223372036854775807:=by decide
 show Dp BIG _=_;rw [adG];unfold mX;by_cases hn:(l.length:Int)=n
 ·rw [if_pos hn,ah hn,bu,ak,iL l (by omega) (UX l) false]
  ·split<;>rfl
  ·intro self i y hy;have hi:=(aT hy).1;simp only [show ((i:Int)<(l.length:Int)) from by omega,decide_true,af];rw [aD hi,hy,aa,jw,bE (by omega)];cases hb:aV y 0 (i:Int) with
   | false=>rw [anF hy hb];simp
   | true=>
    have:=aQ.1 hb;have hz:l[y.toNat]?=some (l[y.toNat]'(by omega)):=aO (by omega);rw [akE hy hz,hb];simp only [aa,bu,ak,Bool.true_and];rw [bG (by omega) (by omega),hz];simp only [aa];by_cases hd:l[y.toNat]'(by omega)=y<;>simp [hd]
  ·intro self;simp
 ·rw [if_neg hn,au hn];rfl
theorem M3 (n:Int) (l:List Int) (hl:l.length<=1048576):rA (n,l)=some (mX n l,()):=by
 have hm:maxLen=9223372036854775807:=by decide
 show yV BIG _=_;rw [abb];unfold mX;by_cases hn:(l.length:Int)=n
 ·rw [if_pos hn,ah hn,bu,ak];subst hn;rw [iL l (by omega) (UX l) false]
  ·split<;>rfl
  ·intro self i y hy;have hi:=(aT hy).1;simp only [show ((i:Int)<(l.length:Int)) from by omega,decide_true,af];simp only [aD hi,hy,aa,bX,bE (show i<maxLen from by omega)];cases hb:aV y 0 (i:Int) with
   | false=>rw [anF hy hb];simp
   | true=>
    have:=aQ.1 hb;have hz:l[y.toNat]?=some (l[y.toNat]'(by omega)):=aO (by omega);rw [akE hy hz,hb];simp only [aa,bu,ak,Bool.true_and];rw [bG (by omega) (by omega),hz];simp only [aa];by_cases hd:l[y.toNat]'(by omega)=y<;>simp [hd]
  ·intro self;simp
 ·rw [if_neg hn,au hn];rfl
abbrev An:=Int × Bool × List (Int × Int) × List Int
def lu (n:Int) (o:An):Bool:=aV n 1 12&&(aV o.1 1 100000&&(iT n o.2.2.1&&mX n o.2.2.2))
theorem P5 (n:Int) (o:An) (hl:o.2.2.1.length<=1048576) (hl':o.2.2.2.length<=1048576):vC (n,o)=some (lu n o,()):=by
 show Du BIG _=_;rw [adI];simp only [jw,xS n _ hl,PZ n _ hl',aa];unfold lu;cases aV n 1 12<;>cases aV o.1 1 100000<;>cases iT n o.2.2.1<;>rfl
theorem P6 (n:Int) (o:An) (hl:o.2.2.1.length<=1048576) (hl':o.2.2.2.length<=1048576):u6 (n,o)=some (lu n o,()):=by
 show Ct BIG _=_;rw [adi];simp only [bX,vG n _ hl,M3 n _ hl',aa];unfold lu;cases aV n 1 12<;>cases aV o.1 1 100000<;>cases iT n o.2.2.1<;>rfl
theorem UY (x:Ed):lsB x x=false:=by simp [lsB]
theorem afE (x y:Ed):lsB x y=true↔x.1<y.1\/(x.1=y.1/\x.2<y.2):=by simp [lsB]
theorem wu {x y z:Ed} (h:lsB x y=true) (h':lsB y z=true):lsB x z=true:=by
 rw [afE] at *;omega
theorem NU {x y:Ed} (h:lsB x y=false) (h':lsB y x=false):x=y:=by
 have h1:¬lsB x y=true:=by simp [h]
 have h2:¬lsB y x=true:=by simp [h']
 rw [afE] at h1 h2;exact Prod.ext (by omega) (by omega)
theorem M4 {x y:Ed} (h:lsB x y=true):lsB y x=false:=by
 cases h':lsB y x with
 | false=>rfl
 | true=>have:=wu h h';rw [UY] at this;cases this
abbrev ol (l:List Ed):Prop:=l.Pairwise (fun x y=>lsB x y=true)
def ins (l:List Ed) (e:Ed):List Ed:=l.filter (fun y=>lsB y e)++[e]++l.filter (fun y=>lsB e y)
theorem iN {l:List Ed} {e x:Ed}:x∈ins l e↔x=e\/x∈l:=by
 simp only [ins,List.mem_append,List.mem_filter,List.mem_singleton];constructor
 ·rintro ((h|h)|h)
  ·exact .inr h.1
  ·exact .inl h
  ·exact .inr h.1
 ·rintro (h|h)
  ·exact .inl (.inr h)
  ·cases h1:lsB x e with
   | true=>exact .inl (.inl ⟨h,rfl⟩)
   | false=>
    cases h2:lsB e x with
    | true=>exact .inr ⟨h,rfl⟩
    | false=>exact .inl (.inr (NU h1 h2))
theorem NV {l:List Ed} {e:Ed} (h:ol l):ol (ins l e):=by
 simp only [ins,ol,List.append_assoc,List.pairwise_append,List.singleton_append,List.pairwise_cons];refine ⟨h.filter _,⟨fun y hy=>(List.mem_filter.1 hy).2,h.filter _⟩,fun x hx y hy => ?_⟩;have h1:=(List.mem_filter.1 hx).2;rcases List.mem_cons.1 hy with hy|hy
 ·subst hy;exact h1
 ·exact wu h1 (List.mem_filter.1 hy).2
theorem E_ (e:Ed):∀l:List Ed,(l.filter (fun y=>lsB y e)).length+(l.filter (fun y=>lsB e y)).length<=l.length
 | []=>by simp
 | y::l=>by
  have:=E_ e l;simp only [List.filter_cons];cases h1:lsB y e<;>cases h2:lsB e y<;>simp
  ·omega
  ·omega
  ·omega
  ·rw [M4 h1] at h2;cases h2
theorem WE (l:List Ed) (e:Ed):(ins l e).length<=l.length+1:=by
 have:=E_ e l;simp only [ins,bY,List.length_singleton];omega
def sK:List Ed->Ed->Nat
 | [],_=>0
 | y::l,e=>if lsB y e then sK l e+1 else 0
theorem afF {l:List Ed} {e:Ed} (h:ol l) (hne:e∉l):l.take (sK l e)++[e]++l.drop (sK l e)=ins l e:=by
 induction l with
 | nil=>rfl
 | cons y l ih=>
  rw [ol,List.pairwise_cons] at h;have ih:=ih h.2 (fun hh=>hne (by simp [hh]));cases h1:lsB y e with
  | true=>
   have h2:=M4 h1;simp only [sK,h1,if_true,List.take_succ_cons,List.drop_succ_cons,List.cons_append,ih];simp only [ins,List.filter_cons,h1,h2,if_true,List.cons_append];simp
  | false=>
   have h2:lsB e y=true:=by
    cases h2:lsB e y with
    | true=>rfl
    | false=>exact absurd (NU h1 h2).symm (fun hh=>hne (by simp [hh]))
   have h3:∀z,z∈l->lsB z e=false/\lsB e z=true:=fun z hz=>by
    have:=wu h2 (h.1 z hz);exact ⟨M4 this,this⟩
   have f1:l.filter (fun y=>lsB y e)=[]:=by
    rw [List.filter_eq_nil_iff];intro z hz;simp [(h3 z hz).1]
   have f2:l.filter (fun y=>lsB e y)=l:=by
    rw [List.filter_eq_self];intro z hz;exact (h3 z hz).2
   simp only [sK,h1,ins,List.filter_cons,h2,if_true,f1,f2];simp
theorem qm (l:List Ed) (e:Ed) (hl:l.length<=maxLen):mM (l,e)=some (decide (e∈l),()):=by
 show AR BIG _=_;rw [X0,iL l (Nat.lt_of_le_of_lt hl YG) (fun i=>decide (l[i]?≠some e)) true (fun self i y hy=>by
   have hi:=(aT hy).1
   simp only [show ((i:Int)<(l.length:Int)) from by omega,decide_true,af]
   rw [aD hi,hy,aa,bE (by omega)]
   obtain ⟨y1,y2⟩:=y
   obtain ⟨e1,e2⟩:=e
   by_cases h1:y1=e1<;>by_cases h2:y2=e2<;>simp [h1,h2]) (fun self=>by simp)]
 by_cases h:e∈l
 ·rw [if_neg,ah h]
  ·rfl
  ·intro hh;obtain ⟨i,hi⟩:=List.getElem?_of_mem h;have:=hh i (aT hi).1;rw [decide_eq_true_eq] at this;exact this hi
 ·rw [if_pos,au h]
  ·rfl
  ·intro i hi;rw [decide_eq_true_eq];exact fun hh=>h (List.mem_of_getElem? hh)
theorem UZ (l:List Ed) (e:Ed) (hl:l.length<=maxLen):xN (l,e)=some (decide (e∈l),()):=by
 rw [<-qm l e hl];show H_ BIG _=AR BIG _;rw [ahK,X0];all_goals rfl
theorem ww (l:List Ed) (e:Ed) (hl:l.length<=1048576):mP (l,e)=some (ins l e,()):=by
 have hm:maxLen=9223372036854775807:=by decide
 show KU BIG _=_;rw [ajY,gT l (by omega) (fun i (c:List Ed)=>c.length<=i) (fun c y=>if lsB y e then c++[y] else c) id (by simp) (fun i c y _ (h:c.length<=i)=>by show List.length (if _ then _ else _)<=_;split<;>(try simp)<;>omega)]
 ·rw [jv];simp only [id,List.nil_append,aa];have h1:=List.length_filter_le (fun y=>lsB y e) l;rw [ah (by simp;omega),af,gT l (by omega) (fun i (c:List Ed)=>c.length<=l.length+1+i) (fun c y=>if lsB e y then c++[y] else c) id (by simp;omega) (fun i c y _ (h:c.length<=_)=>by show List.length (if _ then _ else _)<=_;split<;>(try simp)<;>omega)]
  ·rw [jv];rfl
  ·intro self c i y hy (hc:c.length<=_);have hi:=(aT hy).1;simp only [show ((i:Int)<(l.length:Int)) from by omega,decide_true,af];simp only [aD hi,hy,aa,I1,bE (show i<maxLen from by omega)];cases lsB e y with
   | false=>simp
   | true=>simp [show c.length+1<=4294967296 from by omega]
  ·intro self c hc;simp
 ·intro self c i y hy (hc:c.length<=i);have hi:=(aT hy).1;simp only [show ((i:Int)<(l.length:Int)) from by omega,decide_true,af];simp only [aD hi,hy,aa,I1,bE (show i<maxLen from by omega)];cases lsB y e with
  | false=>simp
  | true=>simp [show c.length+1<=4294967296 from by omega]
 ·intro self c hc;simp
theorem akF:∀(l:List Ed) (e:Ed),sK l e<=l.length
 | [],_=>by simp [sK]
 | y::l,e=>by
  have:=akF l e;simp only [sK,a_];split<;>omega
theorem akG:∀{l:List Ed} {e y:Ed} {i:Nat},i<=sK l e->l[i]?=some y->lsB y e=decide (i<sK l e)
 | [],_,_,_,_,hy=>by simp at hy
 | z::l,e,y,i,hi,hy=>by
  cases hz:lsB z e with
  | false=>
   simp only [sK,hz] at hi ⊢;have:i=0:=by simpa using hi
   subst this;simp only [List.getElem?_cons_zero,aK] at hy;subst hy;simp [hz]
  | true=>
   simp only [sK,hz,if_true] at hi ⊢;cases i with
   | zero=>
    simp only [List.getElem?_cons_zero,aK] at hy;subst hy;simp [hz]
   | succ i=>
    simp only [List.getElem?_cons_succ] at hy;rw [akG (by omega) hy];simp
theorem P7 (l:List Ed) (e:Ed) (hl:l.length<=1048576):vD (l,e)=some (l.take (sK l e)++[e]++l.drop (sK l e),()):=by
 have hm:maxLen=9223372036854775807:=by decide
 have hle:=akF l e;show DI BIG _=_;rw [adM,ik (fun (x:Int)=>∃i:Nat,x=i/\i<=sK l e) (fun (x:Int)=>l.length-x.toNat) (fun _=>((sK l e:Nat):Int)) (fun self x ⟨i,h1,h2⟩ hs=>by
  subst h1
  by_cases hi:i<l.length
  ·have hy:=aO hi
   have hat:=akG h2 hy
   simp only [show ((i:Int)<(l.length:Int)) from by omega,decide_true,af]
   simp only [aD hi,hy,aa,RL,bE (show i<maxLen from by omega),hat]
   by_cases hlt:i<sK l e
   ·rw [ah hlt,af]
    exact hs _ ⟨i+1,rfl,hlt⟩ (by simp;omega)
   ·rw [au hlt,ak]
    have:i=sK l e:=by omega
    rw [<-this]
  ·have:i=l.length:=by omega
   have h3:sK l e=i:=by omega
   rw [h3,this]
   simp) (n:=BIG) (x:=0) (by simp [BIG];omega) ⟨0,rfl,by omega⟩]
 simp only [aa,gq,Nat.sub_zero,List.drop_zero];rw [ah (by omega),af,ah (by omega),af,ah (by simp;omega),af,ah (by simp;omega),af,af,ah (by omega),af,ah (by simp;omega),af];congr 3;rw [List.take_of_length_le];simp
def fM {S α:Type} (st:S->α->Option S):S->List α->Option S
 | s,[]=>some s
 | s,y::l=>(st s y).bind fun s'=>fM st s' l
theorem I4 {α S B:Type} (a:List α) (hl:a.length<18446744073709551616) {F:(S × Int->Option (S ⊕ B))->S × Int->Option (S ⊕ B)} (I:Nat->S->Prop) (st:S->α->Option S) (b:B) {s0:S} (h0:I 0 s0)
  (hI:∀i s y s',a[i]?=some y->I i s->st s y=some s'->I (i+1) s')
  (hF:∀self s (i:Nat) y,a[i]?=some y->I i s->F self (s,(i:Int))=match st s y with
   | some s'=>self (s',((i+1:Nat):Int))
   | none=>some (.inr b))
  (hE:∀self s,I a.length s->F self (s,(a.length:Int))=some (.inl s)):aJ BIG F (s0,0)=some (match fM st s0 a with
   | some s=>.inl s
   | none=>.inr b):=by
 have:=ik (F:=F) (fun x=>∃i:Nat,x.2=i/\i<=a.length/\I i x.1) (fun x=>a.length-x.2.toNat) (fun x=>match fM st x.1 (a.drop x.2.toNat) with
   | some s=>.inl s
   | none=>.inr b) (fun self x ⟨i,h1,h2,h3⟩ hs => ?_) (n:=BIG) (x:=(s0,0)) (by simp;exact hl) ⟨0,rfl,by simp,h0⟩
 ·simpa using this
 ·obtain ⟨s,j⟩:=x;simp only at h1 h2 h3;subst h1;by_cases hi:i<a.length
  ·have hy:=aO hi;rw [hF self s i a[i] hy h3];simp only [gq];rw [List.drop_eq_getElem_cons hi];simp only [fM];cases hst:st s a[i] with
   | none=>rfl
   | some s'=>
    simp only [aa];rw [hs _ ⟨i+1,rfl,hi,hI _ _ _ _ hy h3 hst⟩ (by simp;omega)];simp
  ·have:i=a.length:=by omega
   subst this;rw [hE self s h3];simp [fM]
def xm (out:List Ed) (e:Ed):Option (List Ed):=if e∈out then none else some (ins out e)
theorem RN {out s':List Ed} {e:Ed} (h:xm out e=some s'):e∉out/\s'=ins out e:=by
 unfold xm at h;split at h
 ·cases h
 ·cases h;exact ⟨by assumption,rfl⟩
theorem afG:∀{A s s':List Ed},fM xm s A=some s'->A.Nodup/\(∀x,x∈A->x∉s)/\(∀x,x∈s'↔x∈s\/x∈A)/\(ol s->ol s')/\s'.length<=s.length+A.length
 | [],s,s',h=>by
  simp only [fM,aK] at h;subst h;exact ⟨List.nodup_nil,by simp,by simp,id,by simp⟩
 | e::A,s,s',h=>by
  simp only [fM,Option.bind_eq_some_iff] at h;obtain ⟨s1,h1,h2⟩:=h;obtain ⟨hne,rfl⟩:=RN h1;obtain ⟨k1,k2,k3,k4,k5⟩:=afG h2;refine ⟨List.nodup_cons.2 ⟨fun hh=>k2 e hh (iN.2 (.inl rfl)),k1⟩,fun x hx => ?_,fun x => ?_,fun hs=>k4 (NV hs),?_⟩
  ·rcases List.mem_cons.1 hx with rfl|hx
   ·exact hne
   ·exact fun hh=>k2 x hx (iN.2 (.inr hh))
  ·rw [k3,iN,List.mem_cons];constructor
   ·rintro ((h|h)|h)
    ·exact .inr (.inl h)
    ·exact .inl h
    ·exact .inr (.inr h)
   ·rintro (h|h|h)
    ·exact .inl (.inr h)
    ·exact .inl (.inl h)
    ·exact .inr h
  ·have:=WE s e;simp only [a_];omega
theorem anG:∀{A s:List Ed},A.Nodup->(∀x,x∈A->x∉s)->∃s',fM xm s A=some s'
 | [],s,_,_=>⟨s,rfl⟩
 | e::A,s,h,h'=>by
  have hn:=List.nodup_cons.1 h;have h1:xm s e=some (ins s e):=by unfold xm;rw [if_neg (h' e (by simp))]
  obtain ⟨s',hs⟩:=anG (A:=A) (s:=ins s e) hn.2 fun x hx hh=>by
   rcases iN.1 hh with rfl|hh
   ·exact hn.1 hx
   ·exact h' x (by simp [hx]) hh
  exact ⟨s',by simp only [fM,h1,aa];exact hs⟩
theorem aqt (n:Int):bits .and .i64 n 255=n % 256:=by
 have h255:(BitVec.ofInt 64 255).toNat=2 ^ 8-1:=by decide
 have key:(BitVec.ofInt 64 n &&& BitVec.ofInt 64 255).toNat=(n % ((2 ^ 64:Nat):Int)).toNat % 2 ^ 8:=by
  rw [BitVec.toNat_and,BitVec.toNat_ofInt,h255,Nat.and_two_pow_sub_one_eq_mod]
 show IntKind.i64.wrap ((BitVec.ofInt 64 n &&& BitVec.ofInt 64 255).toNat:Nat)=n % 256;rw [key,IntKind.wrap_i64];omega
abbrev gZ:=List Int × Int × Int
def bS (c:gZ):Prop:=c.1.length<=1048576/\0<=c.2.1/\c.2.1<=c.1.length
theorem xU (c:gZ) (hc:bS c):∃r c',jS c=some (r,c')/\bS c'/\0<=r/\r<=255:=by
 have e:jS c=FP BIG c:=rfl;obtain ⟨h1,h2,h3⟩:=hc;rw [e,agJ,au (by decide),ak,au (by decide),ak];simp only [aqt];by_cases h:c.2.1<c.1.length
 ·rw [ah h,af,bG h2 h,aO (by omega),aa,aa];refine ⟨_,_,rfl,⟨h1,?_,?_⟩,Int.emod_nonneg _ (by decide),by omega⟩
  ·show 0<=IntKind.wrap .i64 (c.2.1+1);rw [wr (by omega) (by omega)];omega
  ·show IntKind.wrap .i64 (c.2.1+1)<=_;rw [wr (by omega) (by omega)];show c.2.1+1<=(c.1.length:Int)
   omega
 ·rw [au h,ak,aa];exact ⟨_,_,rfl,⟨h1,h2,h3⟩,Int.emod_nonneg _ (by decide),by omega⟩
theorem bO (c:gZ) (n:Int) (hc:bS c) (hn:n<=1000000):∃r c',bA (c,n)=some (r,c')/\bS c'/\0<=r/\(0<n->r<n)/\(n<=0->r=0):=by
 have e:bA (c,n)=BR BIG (c,n):=rfl;rw [e,ac2];by_cases h0:n<=0
 ·rw [ah h0];exact ⟨0,c,rfl,hc,by omega,by omega,fun _=>rfl⟩
 ·rw [au h0,ak];obtain ⟨r1,c1,k1,o1,a1,b1⟩:=xU c hc;by_cases h1:n<=256
  ·rw [ah h1,af,k1,aa,au (by omega),ak];refine ⟨_,_,rfl,o1,Int.tmod_nonneg _ a1,fun _ => ?_,by omega⟩;show Int.tmod r1 n<n;exact Int.tmod_lt_of_pos _ (by omega)
  ·rw [au h1,ak,k1,aa];obtain ⟨r2,c2,k2,o2,a2,b2⟩:=xU c1 o1;obtain ⟨r3,c3,k3,o3,a3,b3⟩:=xU c2 o2;obtain ⟨r4,c4,k4,o4,a4,b4⟩:=xU c3 o3;simp only [k2,k3,k4,aa];rw [au (by omega),ak];refine ⟨_,_,rfl,o4,?_,fun _=>Int.tmod_lt_of_pos _ (by omega),by omega⟩;refine Int.tmod_nonneg _ ?_;rw [wr (n:=r1*16777216) (by omega) (by omega),wr (n:=r2*65536) (by omega) (by omega),wr (n:=r3*256) (by omega) (by omega),wr (n:=r1*16777216+r2*65536) (by omega) (by omega),wr (n:=r1*16777216+r2*65536+r3*256) (by omega) (by omega),wr (by omega) (by omega)];omega
theorem sM (c:gZ) (n:Int) (hc:bS c) (hn:2<=n) (hn':n<=12):∃e c',jV (c,n)=some (e,c')/\bS c'/\dh n e=true:=by
 have e:jV (c,n)=Hr BIG (c,n):=rfl;rw [e,ahs];obtain ⟨r0,c0,k0,o0,a0,b0,_⟩:=bO c n hc (by omega);obtain ⟨r1,c1,k1,o1,a1,b1,_⟩:=bO c0 n o0 (by omega);have b0:=b0 (by omega);have b1:=b1 (by omega);simp only [k0,k1,aa];have key:∀x2:Int,0<=x2->x2<n->x2≠r0->∃e c',(bif decide (x2<r0) then some ((x2,r0),c1) else some ((r0,x2),c1))=some (e,c')/\bS c'/\dh n e=true:=by
  intro x2 p q hne;by_cases h:x2<r0
  ·rw [ah h];refine ⟨_,_,rfl,o1,?_⟩;simp only [dh,aP,aQ,decide_eq_true_eq];omega
  ·rw [au h];refine ⟨_,_,rfl,o1,?_⟩;simp only [dh,aP,aQ,decide_eq_true_eq];omega
 by_cases h:r0=r1
 ·rw [ah h,af,au (by omega),ak,aa,wr (by omega) (by omega)];have hm:Int.tmod (r0+1) n=if r0+1=n then 0 else r0+1:=by
   rw [Int.tmod_eq_emod_of_nonneg (by omega)];split
   ·rename_i h;rw [h];exact Int.emod_self
   ·exact Int.emod_eq_of_lt (by omega) (by omega)
  rw [hm];split
  ·exact key 0 (by omega) (by omega) (by omega)
  ·exact key _ (by omega) (by omega) (by omega)
 ·rw [au h,ak,aa];exact key r1 a1 b1 (fun hh=>h hh.symm)
def GrOk (n:Int) (es:List Ed):Prop:=2<=n/\n<=12/\ol es/\(∀e,e∈es->dh n e=true)
theorem Fa {n:Int} {es:List Ed} (h:GrOk n es) (hl:es.length<=66):iT n es=true:=by
 unfold iT;rw [if_pos]
 ·rw [decide_eq_true_eq];omega
 ·intro i hi;have hy:=aO hi;cases i with
  | zero=>rw [ah6 hy];exact h.2.2.2 _ (List.getElem_mem _)
  | succ j=>
   have hj:=aO (show j<es.length by omega);rw [ah7 hy hj,h.2.2.2 _ (List.getElem_mem _),Bool.true_and];exact List.pairwise_iff_getElem.1 h.2.2.1 j (j+1) (by omega) (by omega) (by omega)
theorem I5 (n:Int) (es:List Ed) (e:Ed) (hl:es.length<=maxLen):rD ((n,es),e)=some (decide (e∈es),()):=by
 show GK BIG _=_;rw [ahb,qm _ _ hl];rfl
theorem U0 (n:Int) (es:List Ed) (e:Ed) (hl:es.length<=maxLen):xP ((n,es),e)=some (decide (e∈es),()):=by
 show Im BIG _=_;rw [ahS,UZ _ _ hl];rfl
theorem akH (a:List Int) (ha:a.length<=1048576):∃c,AQ a=some (c,())/\bS c:=by
 have hm:maxLen=9223372036854775807:=by decide
 have e:AQ a=Ko BIG a:=rfl;rw [e,ajL];have:=pM (F:=fun (self1:Int × Int->Option (Int)) (x0:Int × Int)=>
  Option.bind (bif decide (x0.2<(a.length:Int)) then
   some (decide (x0.2<(4000:Int)))
   else some false:Option (Bool)) fun x2=>
  bif x2 then
   bnd a.length x0.2 fun n3=>
   Option.bind a[n3]? fun y4=>
   self1 (bits .and .i64 (IntKind.wrap .i64 ((IntKind.wrap .i64 ((IntKind.wrap .i64 (x0.1*(131:Int)))+(IntKind.wrap .i64 (y4))))+(7:Int))) (1073741823:Int),IntKind.wrap .i64 (x0.2+(1:Int)))
  else some x0.1) (fun x=>∃i:Nat,x.2=i/\i<=a.length) (fun x=>a.length-x.2.toNat) (fun _ _=>True) (fun self x ⟨i,h1,h2⟩ hs => ?_) (n:=BIG) (x:=(IntKind.wrap .i64 ((13501:Int)+(a.length:Int)),0)) (by simp [BIG];omega) ⟨0,rfl,by omega⟩
 ·obtain ⟨b,hb,_⟩:=this;rw [hb];exact ⟨_,rfl,ha,Int.le_refl _,by simp⟩
 ·obtain ⟨z,j⟩:=x;simp only at h1;subst h1;by_cases h:i<a.length
  ·by_cases h':(i:Int)<4000
   ·simp only [show ((i:Int)<(a.length:Int)) from by omega,h',decide_true,af,aa];rw [aD h,aO h,aa,bE (by omega)];exact hs _ ⟨i+1,rfl,h⟩ (by simp;omega)
   ·simp only [show ((i:Int)<(a.length:Int)) from by omega,h',decide_true,decide_false,af,ak,aa];exact ⟨_,rfl,trivial⟩
  ·simp only [show ¬((i:Int)<(a.length:Int)) from by omega,decide_false,ak,aa];exact ⟨_,rfl,trivial⟩
def del (es:List Ed) (e:Ed):List Ed:=es.filter (fun y=>!decide (y=e))
theorem ab_ (a b:List Ed) (ha:a.length<=maxLen):sD (a,b)=some (decide (a=b),()):=by
 show zX BIG _=_;rw [abM];by_cases hl:a.length=b.length
 ·rw [ah (by omega),bu,ak,ab5 a b ha hl false]
  ·by_cases h:a=b<;>simp [h]
  ·intro self i x y hx hy;have hi:=(aT hx).1;simp only [show ((i:Int)<(a.length:Int)) from by omega,decide_true,af];rw [aD hi,hx,aa,aD (by omega),hy,aa,bE (by omega)];obtain ⟨x1,x2⟩:=x;obtain ⟨y1,y2⟩:=y;by_cases h1:x1=y1<;>by_cases h2:x2=y2<;>simp [h1,h2]
  ·intro self;simp
 ·rw [au (by omega),fw,af,au (fun h=>hl (by rw [h]))]
theorem kN {es:List Ed} {e x:Ed}:x∈del es e↔x∈es/\x≠e:=by simp [del]
theorem aoG {es:List Ed} {e:Ed} (h:ol es):ol (del es e):=h.filter _
theorem GrOk.ins {n:Int} {es:List Ed} {e:Ed} (h:GrOk n es) (he:dh n e=true):GrOk n (ins es e):=⟨h.1,h.2.1,NV h.2.2.1,fun x hx=>by
 rcases iN.1 hx with rfl|hx
 ·exact he
 ·exact h.2.2.2 x hx⟩
theorem GrOk.del {n:Int} {es:List Ed} {e:Ed} (h:GrOk n es):GrOk n (del es e):=⟨h.1,h.2.1,aoG h.2.2.1,fun x hx=>h.2.2.2 x (kN.1 hx).1⟩
theorem aqu (a:List Int):aa2 a=some (decide ((1048576:Int)<(a.length:Int)),()):=aqs BIG a
theorem lw (c:gZ) (n:Int) (hc:bS c) (hn:n<=1000000):∃b c',gz (c,n)=some (b,c')/\bS c':=by
 have e:gz (c,n)=Hw BIG (c,n):=rfl;obtain ⟨r,c',k,o,_⟩:=bO c n hc hn;rw [e,ahu,k];exact ⟨_,_,rfl,o⟩
theorem b_ (c:gZ) (l:List Int) (hc:bS c) (h0:0<l.length) (hl:l.length<=1000000):∃b c',bM (c,l)=some (b,c')/\bS c':=by
 have e:bM (c,l)=wH BIG (c,l):=rfl;obtain ⟨r,c',k,o,a,b,_⟩:=bO c l.length hc (by omega);have b:=b (by omega);rw [e,Y0,k,aa,bG a b,aO (by omega)];exact ⟨_,_,rfl,o⟩
theorem wU (c:gZ) (hc:bS c):∃e c',jE (c,(0,[]))=some (e,c')/\bS c':=by
 have e:jE (c,(0,[]))=wK BIG (c,(0,[])):=rfl;rw [e,Y4];simp only [List.length_nil,Int.natCast_zero,Int.lt_irrefl,decide_false,ak,aa];obtain ⟨b,c1,k1,o1⟩:=lw c 12 hc (by omega);rw [k1,aa];cases b with
 | true=>
  obtain ⟨r2,c2,k2,o2⟩:=b_ c1 [(-1:Int),(0:Int),(5:Int),(11:Int),(12:Int)] o1 (by decide) (by decide);obtain ⟨r3,c3,k3,o3⟩:=b_ c2 [(0:Int),(5:Int),(11:Int),(12:Int)] o2 (by decide) (by decide);simp only [af,k2,k3,aa];exact ⟨_,_,rfl,o3⟩
 | false=>
  obtain ⟨e,c2,k2,o2,_⟩:=sM c1 6 o1 (by omega) (by omega);simp only [ak,k2,aa];exact ⟨_,_,rfl,o2⟩
theorem aoH (c:gZ) (hc:bS c):∃n c',NS c=some (n,c')/\bS c'/\2<=n/\n<=12:=by
 have e:NS c=VS BIG c:=rfl;obtain ⟨r,c',k,o,a,b,_⟩:=bO c 11 hc (by omega);have b:=b (by omega);rw [e,aon,k,aa,wr (by omega) (by omega)];exact ⟨_,_,rfl,o,by omega,by omega⟩
theorem akI (n:Int):Kv n=some (if aV n 1 12 then (n,[],true) else (0,[],false),()):=by
 show Ku BIG _=_;rw [ajN,bX,aa];cases aV n 1 12<;>rfl
theorem ad4 (a b:Int):BZ (a,b)=some (if aV a 1 3&&aV b 1 12 then (a,b,[],0,false,[],[],true) else (0,0,[],0,false,[],[],false),()):=by
 show BX BIG _=_;rw [ac5,akI,bX];cases aV a 1 3<;>cases aV b 1 12<;>rfl
abbrev az:=Int × Int × Int × Bool
theorem akJ (E:List az) (hE:E.length<=4294967295) {n:Int} {F:((Int × List (Int × Int)) × Int->Option (Int × List (Int × Int)))->(Int × List (Int × Int)) × Int->Option (Int × List (Int × Int))}
  (hF:∀self out (i:Nat) y,E[i]?=some y->F self ((n,out),(i:Int))=bif decide (out.length+1<=4294967296) then self ((n,out++[(y.1,y.2.1)]),((i+1:Nat):Int)) else none)
  (hE':∀self x,F self (x,(E.length:Int))=some x):aJ BIG F ((n,[]),0)=some (n,E.map fun x=>(x.1,x.2.1)):=by
 rw [gT E (by omega) (fun i (s:Int × List (Int × Int))=>s.1=n/\s.2.length=i) (fun s y=>(s.1,s.2++[(y.1,y.2.1)])) id ⟨rfl,rfl⟩ (fun i s y _ h=>⟨h.1,by simp [h.2]⟩)]
 ·have:∀(l:List az) (s:Int × List (Int × Int)),l.foldl (fun s y=>(s.1,s.2++[(y.1,y.2.1)])) s=(s.1,s.2++l.map fun x=>(x.1,x.2.1)):=by
   intro l;induction l with
   | nil=>intro s;simp
   | cons y l ih=>intro s;rw [List.foldl_cons,ih];simp
  rw [this];simp
 ·rintro self ⟨m,out⟩ i y hy ⟨rfl,h2⟩;simp only at h2;have hi:=(aT hy).1;rw [hF self out i y hy,ah (by omega),af]
 ·intro self s _;exact hE' self s
theorem xV (n:Int) (E:List az) (hE:E.length<=1048576):iY (n,E)=some ((n,E.map fun x=>(x.1,x.2.1)),()):=by
 have hm:maxLen=9223372036854775807:=by decide
 show Iz BIG _=_;rw [ahW];dsimp only;rw [akJ E (by omega)]
 ·rfl
 ·intro self out i y hy;have hi:=(aT hy).1;simp only [show ((i:Int)<(E.length:Int)) from by omega,decide_true,af];rw [aD hi,hy,aa,bE (by omega)];rfl
 ·intro self x;simp
theorem xW (n:Int) (E:List az) (hE:E.length<=1048576):iX (n,E)=some ((n,E.map fun x=>(x.1,x.2.1)),()):=by
 have hm:maxLen=9223372036854775807:=by decide
 show F6 BIG _=_;rw [agQ];dsimp only;rw [akJ E (by omega)]
 ·rfl
 ·intro self out i y hy;have hi:=(aT hy).1;simp only [show ((i:Int)<(E.length:Int)) from by omega,decide_true,af];rw [aD hi,hy,aa,aD hi,hy,aa,bE (by omega)];rfl
 ·intro self x;simp
theorem amx (x0 x1:Int) (x2:List az) (x3:Int) (x4:Bool) (x5:List Ed) (x6:List Int) (hE:x2.length<=1048576):IY (x0,x1,x2,x3,x4,x5,x6)=some (x2.map fun x=>(x.1,x.2.1),()):=by
 show RB BIG _=_;rw [amw];dsimp only;rw [xV _ _ hE];rfl
theorem aoI (x0:Int) (x1:List Int) (x2:List Ed) (x3:List (List Int)) (x4:List Int) (x5 x6 x7 x8 x9 x10 x11:Int) (x12:List Ed) (x13:Int) (x14:List (Int × Int × Int × Int × Int × Int)):Wn (x0,x1,x2,x3,x4,x5,x6,x7,x8,x9,x10,x11,x12,x13,x14)=some (!decide (x9=0),()):=aox BIG _
theorem WF (x0:Int) (x1:List Int) (x2:List Ed) (x3:List (List Int)) (x4:List Int) (x5 x6 x7 x8 x9 x10 x11:Int) (x12:List Ed) (x13:Int) (x14:List (Int × Int × Int × Int × Int × Int)):nz (x0,x1,x2,x3,x4,x5,x6,x7,x8,x9,x10,x11,x12,x13,x14)=some (!decide (x9=0),()):=aop BIG _
theorem rangeLoop {S B:Type} (n:Nat) (hl:n<18446744073709551616) {F:(S × Int->Option B)->S × Int->Option B} (I:Nat->S->Prop) (st:Nat->S->S) (R:S->B) {s0:S} (h0:I 0 s0)
  (hI:∀i s,i<n->I i s->I (i+1) (st i s)) (hF:∀self s (i:Nat),i<n->I i s->F self (s,(i:Int))=self (st i s,((i+1:Nat):Int)))
  (hE:∀self s,I n s->F self (s,(n:Int))=some (R s)):aJ BIG F (s0,0)=some (R ((List.range n).foldl (fun s i=>st i s) s0)):=by
 have hr:∀{i y:Nat},(List.range n)[i]?=some y->i<n/\y=i:=by
  intro i y h;have hi:=(aT h).1;rw [List.length_range] at hi;rw [List.getElem?_range hi] at h;cases h;exact ⟨hi,rfl⟩
 refine gT (List.range n) (by rw [List.length_range];exact hl) I (fun s i=>st i s) R h0 (fun i s y hy hi => ?_) (fun self s i y hy hi => ?_) (fun self s hs => ?_)
 ·obtain ⟨h1,rfl⟩:=hr hy;exact hI _ _ h1 hi
 ·obtain ⟨h1,rfl⟩:=hr hy;exact hF _ _ _ h1 hi
 ·rw [List.length_range] at hs ⊢;exact hE _ _ hs
theorem akK {α:Type} (f:Nat->α) (n:Nat) (s:List α):(List.range n).foldl (fun s i=>s++[f i]) s=s++(List.range n).map f:=by
 induction n with
 | zero=>simp
 | succ n ih=>rw [List.range_succ,List.foldl_append,ih];simp
theorem aca (n:Nat) (hn:n<=1000000) {F:(List Int × Int->Option (List Int))->List Int × Int->Option (List Int)}
  (hF:∀self out (i:Nat),i<n->out.length=i->F self (out,(i:Int))=self (out++[(i:Int)],((i+1:Nat):Int)))
  (hE:∀self out,F self (out,(n:Int))=some out):aJ BIG F ([],0)=some (pO n):=by
 rw [rangeLoop n (by omega) (fun i (s:List Int)=>s.length=i) (fun i s=>s++[(i:Int)]) id rfl (fun i s _ h=>by simp [h]) (fun self s i hi h=>hF self s i hi h) (fun self s _=>hE self s),akK];rfl
theorem acb (n:Nat) (hn:n<=1000000):IA (n:Int)=some (pO n,()):=by
 have hm:maxLen=9223372036854775807:=by decide
 show Rh BIG _=_;rw [aml,aca n hn]
 ·rfl
 ·intro self out i hi hl;simp only [show ((i:Int)<(n:Int)) from by omega,decide_true,af];rw [ah (by simp;omega),af,bE (by omega)]
 ·intro self out;simp
theorem ah8 (E:List (Int × Int)) (n:Nat):∀l:List Int,(List.range n).foldl (fun s _=>lrnd E s) l=IZ E n l:=by
 have:∀(m:Nat) (l:List Int),IZ E (m+1) l=lrnd E (IZ E m l):=by
  intro m;induction m with
  | zero=>intro l;rfl
  | succ m ih=>intro l;show IZ E (m+1) (lrnd E l)=_;rw [ih];rfl
 induction n with
 | zero=>intro l;rfl
 | succ n ih=>intro l;rw [List.range_succ,List.foldl_append,ih,this];rfl
theorem sN (n:Nat) (E:List (Int × Int)) (hn:n<=12) (hE:jX n E) (hl:E.length<=4611686018427387904):kK ((n:Int),E)=some (labs n E,()):=by
 have hm:maxLen=9223372036854775807:=by decide
 show yO BIG _=_;rw [aa5,aca n (by omega)]
 ·rw [aa,rangeLoop n (by omega) (fun i (s:List Int)=>s.length=n) (fun _ s=>lrnd E s) id (Am n) (fun i s _ h=>by rw [ab8];exact h)]
  ·rw [ah8,ah5 hE];rfl
  ·intro self s i hi hs;simp only [show ((i:Int)<(n:Int)) from by omega,decide_true,af];rw [gT E (by omega) (fun _ (s:List Int)=>s.length=n) rlE id hs (fun i s y _ h=>by rw [afC];exact h)]
   ·rw [aa,bE (by omega)];rfl
   ·intro self s i y hy hs;have hi:=(aT hy).1;obtain ⟨h1,h2,h3,h4⟩:=hE y (List.mem_of_getElem? hy);have i1:y.1.toNat<s.length:=by omega
    have i2:y.2.toNat<s.length:=by omega
    simp only [show ((i:Int)<(E.length:Int)) from by omega,decide_true,af];rw [bE (by omega),aD hi,hy,aa,bG h1 (by omega),getD_at i1,aa,aD hi,hy,aa,bG h3 (by omega),getD_at i2,aa];unfold rlE;simp only;by_cases c1:s.getD y.1.toNat 0<s.getD y.2.toNat 0
    ·rw [ah c1,af,aD hi,hy,aa,bG h3 (by omega),getD_at i2,aa,aa,au (by omega),ak,if_pos c1,if_neg (by omega)];rfl
    ·rw [au c1,ak,aa,if_neg c1];by_cases c2:s.getD y.2.toNat 0<s.getD y.1.toNat 0
     ·rw [ah c2,af,aD hi,hy,aa,bG h1 (by omega),getD_at i1,aa,if_pos c2];rfl
     ·rw [au c2,ak,if_neg c2];rfl
   ·intro self s _;simp
  ·intro self s _;simp
 ·intro self out i hi hl;simp only [show ((i:Int)<(n:Int)) from by omega,decide_true,af];rw [ah (by simp;omega),af,bE (by omega)]
 ·intro self out;simp
abbrev Hd:=Int × List Int × List (Int × Int) × List (List Int) × List Int × Int × Int × Int × Int × Int × Int × Int × List (Int × Int) × Int × List (Int × Int × Int × Int × Int × Int)
def M5 (n k:Nat):List Int:=(List.range n).map fun (i:Nat)=>1+Int.tmod (i:Int) k
def hdN (n k:Nat):Hd:=((n:Int),M5 n k,[],List.replicate k (pO n),List.replicate k 0,0,0,0,0,0,0,0,[],0,[])
theorem amy (f:Nat->Int) (n:Nat) (s:Hd):(List.range n).foldl (fun (s:Hd) i=>(s.1,s.2.1++[f i],s.2.2)) s=(s.1,s.2.1++(List.range n).map f,s.2.2):=by
 induction n with
 | zero=>simp
 | succ n ih=>rw [List.range_succ,List.foldl_append,ih];simp
theorem amz (L:List Int) (n:Nat) (s:Hd):(List.range n).foldl (fun (s:Hd) i=>(s.1,s.2.1,s.2.2.1,s.2.2.2.1++[L],s.2.2.2.2)) s=(s.1,s.2.1,s.2.2.1,s.2.2.2.1++List.replicate n L,s.2.2.2.2):=by
 induction n with
 | zero=>simp
 | succ n ih=>rw [List.range_succ,List.foldl_append,ih,List.replicate_succ'];simp
theorem aqv {i k:Nat} (hk:1<=k) (hk':k<=3):0<=Int.tmod (i:Int) k/\Int.tmod (i:Int) k<3:=by
 rw [Int.tmod_eq_emod_of_nonneg (by omega)];have h1:=Int.emod_nonneg (i:Int) (show (k:Int)≠0 from by omega);have h2:=Int.emod_lt_of_pos (i:Int) (show (0:Int)<(k:Int) from by omega);omega
def fV (n:Int) (es:List Ed):Bool:=aV n 1 12&&iT n es
theorem U1 (n:Int) (es:List Ed) (hl:es.length<=1048576):xO (n,es)=some (fV n es,()):=by
 show Ii BIG _=_;rw [ahQ,jw,xS n es hl];unfold fV;cases aV n 1 12<;>rfl
theorem I6 (n:Int) (es:List Ed) (hl:es.length<=1048576):qV (n,es)=some (fV n es,()):=by
 show Gc BIG _=_;rw [agV,bX,vG n es hl];unfold fV;cases aV n 1 12<;>rfl
theorem iO {n:Int} {es:List Ed} (h:iT n es=true):(∀e,e∈es->dh n e=true)/\ol es/\es.length<=66:=by
 have hl:=jk h;unfold iT at h;split at h;case isFalse=>cases h
 case isTrue hp=>
 have hc:∀i (h:i+1<es.length),dh n es[i+1]=true/\lsB es[i] es[i+1]=true:=by
  intro i hi;have:=hp (i+1) hi;rw [ah7 (aO hi) (aO (by omega)),aP] at this;exact this
 have h0:∀i (h:i<es.length),dh n es[i]=true:=by
  intro i hi;cases i with
  | zero=>have:=hp 0 hi;rwa [ah6 (aO hi)] at this
  | succ i=>exact (hc i hi).1
 refine ⟨fun e he => ?_,List.pairwise_iff_getElem.2 fun i j hi hj hij => ?_,hl⟩
 ·obtain ⟨i,hi,rfl⟩:=List.getElem_of_mem he;exact h0 i hi
 ·have:∀d (h:i+1+d<es.length),lsB es[i] es[i+1+d]=true:=by
   intro d;induction d with
   | zero=>intro h;exact (hc i h).2
   | succ d ih=>intro h;exact wu (ih (by omega)) (hc (i+1+d) h).2
  have:=this (j-(i+1)) (by omega);simpa [show i+1+(j-(i+1))=j from by omega] using this
theorem dC {n:Nat} {e:Ed} (h:dh (n:Int) e=true):0<=e.1/\e.1<n/\0<=e.2/\e.2<n/\e.1<e.2:=by
 simp only [dh,aP,aQ,decide_eq_true_eq] at h;omega
theorem aqw {n:Nat} {es:List Ed} (h:iT (n:Int) es=true):jX n es:=fun e he=>by
 have:=dC ((iO h).1 e he)
 exact ⟨this.1,this.2.1,this.2.2.1,this.2.2.2.1⟩
theorem aoJ {α:Type} (a:List α) (f:α->α) (hl:a.length<18446744073709551616) {F:(List α × Int->Option (List α))->List α × Int->Option (List α)}
  (hF:∀self out (i:Nat) y,out.length=a.length->out[i]?=some y->a[i]?=some y->F self (out,(i:Int))=self (out.set i (f y),((i+1:Nat):Int)))
  (hE:∀self out,out.length=a.length->F self (out,(a.length:Int))=some out):aJ BIG F (a,0)=some (a.map f):=by
 have:=ik (F:=F) (fun x=>∃i:Nat,x.2=i/\i<=a.length/\x.1=(a.map f).take i++a.drop i) (fun x=>a.length-x.2.toNat) (fun _=>a.map f) (fun self x ⟨i,h1,h2,h3⟩ hs => ?_) (n:=BIG) (x:=(a,0)) (by simp;exact hl) ⟨0,rfl,by simp,by simp⟩
 ·exact this
 ·obtain ⟨out,j⟩:=x;simp only at h1 h3;subst h1;have hlen:out.length=a.length:=by rw [h3];simp;omega
  by_cases hi:i<a.length
  ·have hy:=aO hi;have ho:out[i]?=some a[i]:=by
    rw [h3,List.getElem?_append_right (by simp;omega)];simp [Nat.min_eq_left (show i<=a.length from by omega)]
   rw [hF self out i a[i] hlen ho hy];have e:=Zb (a:=a) (t:=a.map f) (i:=i) (z:=f a[i]) (by simp) hi (by simp [hi]);rw [<-h3] at e;exact hs _ ⟨i+1,rfl,hi,e⟩ (by simp;omega)
  ·have:i=a.length:=by omega
   subst this;rw [hE self out hlen,h3];simp [List.take_of_length_le]
theorem set_self {α:Type} {l:List α} {i:Nat} {y:α} (h:l[i]?=some y):l.set i y=l:=by
 apply List.ext_getElem?;intro j;rw [List.getElem?_set];split
 ·subst j;have:=(aT h).1;simp [this,h.symm]
 ·rfl
theorem acd (l:List Int) (a b:Int) (ha:0<=a) (ha':a<l.length) (hb:0<=b) (hb':b<l.length) (hl:l.length<=1048576) :
  IB (l,a,b)=some (!decide (l.getD a.toNat 0=l.getD b.toNat 0),unE l (a,b)):=by
 have hm:maxLen=9223372036854775807:=by decide
 show Rl BIG _=_;rw [amn,bG ha ha',getD_at (by omega),aa,bG hb hb',getD_at (by omega),aa];unfold unE;simp only;generalize l.getD a.toNat 0=x;generalize l.getD b.toNat 0=y;by_cases h:x=y
 ·subst h;rw [ah rfl,af,ab7];rfl
 ·rw [au h,ak,aoJ l (fun z=>if z=(if y > x then y else x) then (if y<x then y else x) else z) (by omega)]
  ·rfl
  ·intro self out i z hlo ho hz;have hi:=(aT hz).1;simp only [show ((i:Int)<(l.length:Int)) from by omega,decide_true,af];rw [aD (by omega),ho,aa,bE (by omega)];by_cases hc:z=(if y > x then y else x)
   ·rw [ah hc,af,aD (by omega),ho,aa,if_pos hc];rfl
   ·rw [au hc,ak,if_neg hc,set_self ho];rfl
  ·intro self out hlo;simp
theorem akL (n:Nat) (es:List Ed) (hl:es.length<=1048576):LF ((n:Int),es)=some (if fV n es then labs n es else [],()):=by
 show LD BIG _=_;rw [akb,I6 _ _ hl,aa];cases hg:fV n es with
 | false=>rfl
 | true=>
  simp only [fV,aP,aQ] at hg;simp only [bu,ak];rw [sN n es (by omega) (aqw hg.2) (by omega)];rfl
def tgB (n:Int) (es:List Ed) (a b:Int):Bool:=fV n es&&(aV a 0 (n-1)&&(aV b 0 (n-1)&&decide ((labs n.toNat es).getD a.toNat 0=(labs n.toNat es).getD b.toNat 0)))
def I7 (n:Int) (es:List Ed) (e:Ed):Int × List Ed × Bool:=if fV n es&&(dh n e && !decide (e∈es)) then (n,ins es e,true) else (0,[],false)
def ah9 (n:Int) (es:List Ed) (e:Ed):Int × List Ed × Bool:=if fV n es&&decide (e∈es) then (n,del es e,true) else (0,[],false)
theorem ah_ (n:Int) (es:List Ed) (e:Ed) (hl:es.length<=1048576):Iu ((n,es),e)=some (I7 n es e,()):=by
 have hm:maxLen=9223372036854775807:=by decide
 show Ir BIG _=_;rw [ahU,U1 n es hl,YK,U0 n es e (by omega),P7 es e hl];unfold I7;cases hg:fV n es with
 | false=>rfl
 | true=>
  cases he:dh n e with
  | false=>rfl
  | true=>
   by_cases hin:e∈es
   ·rw [ah hin];rfl
   ·simp only [fV,aP] at hg;rw [au hin,afF (iO hg.2).2.1 hin];rfl
theorem aia (n:Int) (es:List Ed) (e:Ed) (hl:es.length<=1048576):GQ ((n,es),e)=some (I7 n es e,()):=by
 have hm:maxLen=9223372036854775807:=by decide
 show GN BIG _=_;rw [ahd,I6 n es hl,Bq,I5 n es e (by omega),ww es e hl];unfold I7;cases hg:fV n es with
 | false=>rfl
 | true=>
  cases he:dh n e with
  | false=>rfl
  | true=>cases decide (e∈es)<;>rfl
theorem JC (es:List Ed) (e:Ed) (hl:es.length<=1048576):oF (es,e)=some (del es e,()):=by
 have hm:maxLen=9223372036854775807:=by decide
 show wD BIG _=_;rw [YX,gT es (by omega) (fun i (c:List Ed)=>c.length<=i) (fun c y=>if (!decide (y=e)) then c++[y] else c) id (by simp) (fun i c y _ (h:c.length<=i)=>by show List.length (if _ then _ else _)<=_;split<;>(try simp)<;>omega)]
 ·rw [jv];rfl
 ·intro self c i y hy (hc:c.length<=i);have hi:=(aT hy).1;simp only [show ((i:Int)<(es.length:Int)) from by omega,decide_true,af];rw [aD hi,hy,aa,bE (by omega)];have hd:(decide (y.1=e.1)&&(decide (y.2=e.2)&&true))=decide (y=e):=by
   obtain ⟨y1,y2⟩:=y;obtain ⟨e1,e2⟩:=e;by_cases h1:y1=e1<;>by_cases h2:y2=e2<;>simp [h1,h2]
  rw [hd];cases decide (y=e) with
  | true=>simp
  | false=>simp [aD hi,hy,show c.length+1<=4294967296 from by omega]
 ·intro self c hc;simp
theorem WH (es:List Ed) (e:Ed) (hl:es.length<=1048576):uP (es,e)=some (del es e,()):=by
 have hm:maxLen=9223372036854775807:=by decide
 show uO BIG _=_;rw [Wt,gT es (by omega) (fun i (c:List Ed)=>c.length<=i) (fun c y=>if (!decide (y=e)) then c++[y] else c) id (by simp) (fun i c y _ (h:c.length<=i)=>by show List.length (if _ then _ else _)<=_;split<;>(try simp)<;>omega)]
 ·rw [jv];rfl
 ·intro self c i y hy (hc:c.length<=i);have hi:=(aT hy).1;simp only [show ((i:Int)<(es.length:Int)) from by omega,decide_true,af];rw [aD hi,hy,aa,bE (by omega)];have hd:(decide (y.1=e.1)&&(decide (y.2=e.2)&&true))=decide (y=e):=by
   obtain ⟨y1,y2⟩:=y;obtain ⟨e1,e2⟩:=e;by_cases h1:y1=e1<;>by_cases h2:y2=e2<;>simp [h1,h2]
  rw [hd];cases decide (y=e) with
  | true=>simp
  | false=>simp [show c.length+1<=4294967296 from by omega]
 ·intro self c hc;simp
def ek (a b:Int):Ed:=if a<b then (a,b) else (b,a)
theorem aib (i o a b:Int):Hm (i,o,a,b)=some (ek a b,()):=by
 show Hl BIG _=_;rw [ahq];unfold ek;dsimp only;by_cases h:a<b
 ·rw [ah h,af,if_pos h]
 ·rw [au h,ak,if_neg h]
theorem Ap (es:List Ed) (hl:es.length<=1048576):mR es=some (es,()):=by
 show zO BIG _=_;rw [abC,ah (by omega)];rfl
theorem amA (b:Bool):Q_ b=some (if b then 1 else 2,()):=by
 show Q9 BIG _=_;rw [amh];cases b<;>rfl
def tQ (n:Int) (es:List Ed) (o a b:Int):Int × List Ed × Int:=
 if aV o 1 4&&(decide (0<=a)&&decide (a<n)) then
  if o=4 then (n,es,if aV b 1 3 then 1 else 3)
  else if (decide (0<=b)&&decide (b<n)) && !(decide (a=b) && !decide (o=3)) then
   if o=3 then (n,es,if tgB n es a b then 1 else 2)
   else
    let r:=if o=2 then ah9 n es (ek a b) else I7 n es (ek a b)
    if r.2.2 then (r.1,r.2.1,1) else (n,es,2)
  else (n,es,3)
 else (n,es,3)
theorem arb {α S T X B:Type} (a:List α) (hl:a.length<18446744073709551616) {F:(X->Option (T ⊕ B))->X->Option (T ⊕ B)} (mk:S->Int->X) (I:Nat->S->Prop) (st:S->α->Option S) (R:S->T) (b:B) {s0:S} (h0:I 0 s0)
  (hI:∀i s s' y,a[i]?=some y->I i s->st s y=some s'->I (i+1) s') (hF:∀self s (i:Nat) y,a[i]?=some y->I i s->F self (mk s (i:Int))=match st s y with|some s'=>self (mk s' ((i+1:Nat):Int))|none=>some (.inr b))
  (hE:∀self s,I a.length s->F self (mk s (a.length:Int))=some (.inl (R s))):aJ BIG F (mk s0 0)=some (match fM st s0 a with|some s=>.inl (R s)|none=>.inr b):=by
 have key:∀(k n i:Nat) (s:S),a.length-i<=k->k<n->i<=a.length->I i s->it F n (mk s (i:Int))=some (match fM st s (a.drop i) with|some s=>.inl (R s)|none=>.inr b):=by
  intro k;induction k with
  | zero=>
   intro n i s hk hn hi hs;obtain ⟨m,rfl⟩:∃m,n=m+1:=⟨n-1,by omega⟩
   have:i=a.length:=by omega
   subst this;show F (it F m) _=_;rw [hE _ _ hs,List.drop_length];rfl
  | succ k ih=>
   intro n i s hk hn hi hs;obtain ⟨m,rfl⟩:∃m,n=m+1:=⟨n-1,by omega⟩
   show F (it F m) _=_;by_cases hi':i<a.length
   ·have hy:=aO hi';rw [hF _ _ _ _ hy hs,List.drop_eq_getElem_cons hi'];cases hst:st s a[i] with
    | none=>simp only [fM,hst,Option.bind_none]
    | some s'=>
     simp only;rw [ih m (i+1) _ (by omega) (by omega) hi' (hI _ _ _ _ hy hs hst)];simp only [fM,hst,aa]
   ·have:i=a.length:=by omega
    subst this;rw [hE _ _ hs,List.drop_length];rfl
 have:=key a.length BIG 0 s0 (by omega) (by simpa [BIG] using hl) (by omega) h0;show it F BIG (mk s0 0)=_;simpa using this
def by8 (n:Int):UInt8:=UInt8.ofNat (n % 256).toNat
def vF:Nat->Nat->List UInt8
 | 0,v=>[by8 (v:Int)]
 | k+1,v=>if v<=127 then [by8 (v:Int)] else by8 ((v % 128+128:Nat):Int)::vF k (v / 128)
def vB (v:Nat):List UInt8:=vF 9 v
def e2 (e:Ed):List UInt8:=[by8 e.1,by8 e.2]
theorem WI {n:Int} {a:An} (h:lu n a=true):1<=n/\n<=12/\1<=a.1/\a.1<=100000/\iT n a.2.2.1=true/\(a.2.2.2.length:Int)=n/\mX n a.2.2.2=true:=by
 unfold lu at h;simp only [aP,aQ] at h;obtain ⟨hn,h1,h2,h3⟩:=h;have h3':=h3;unfold mX at h3;split at h3
 ·rename_i hl;exact ⟨hn.1,hn.2,h1.1,h1.2,h2,hl,h3'⟩
 ·cases h3
def dec:Nat->List UInt8->Option (Nat × Nat)
 | 0,_=>none
 | _+1,[]=>none
 | k+1,b::l=>if b.toNat<128 then some (b.toNat,1) else (dec k l).map fun r=>(b.toNat-128+128*r.1,r.2+1)
def rdV (l:List UInt8):Option (Nat × Nat):=match dec 5 l with
 | some (v,m)=>if v<=1000000000/\vB v=l.take m then some (v,m) else none
 | none=>none
abbrev St:=Nat × Bool
def nm (T:List UInt8) (s:St):Int × St:=
 if s.2 then (0,(s.1,true)) else match rdV (T.drop s.1) with
 | some (v,m)=>((v:Int),(s.1+m,false))
 | none=>(0,(s.1,true))
def on (T:List UInt8) (s:St):Int × St:=
 if s.2 then (0,(s.1,true)) else match T[s.1]? with
 | some b=>((b.toNat:Int),(s.1+1,false))
 | none=>(0,(s.1,true))
def edF (T:List UInt8):Nat->St->List Ed->St × List Ed
 | 0,s,out=>(s,out)
 | k+1,s,out=>if s.2 then (s,out) else edF T k (on T (on T s).2).2 (out++[((on T s).1,(on T (on T s).2).1)])
def q0 (T:List UInt8):Int × St:=nm T (0,false)
def q1 (T:List UInt8):Int × St:=on T (q0 T).2
def q2 (T:List UInt8):Int × St:=nm T (q1 T).2
def q3 (T:List UInt8) (K:Nat):St × List Ed:=edF T K (nm T (q2 T).2).2 []
def lbF (T:List UInt8):Nat->St->List Int->St × List Int
 | 0,s,out=>(s,out)
 | k+1,s,out=>lbF T k (on T s).2 (out++[(on T s).1])
def q4 (T:List UInt8) (K:Nat):St × List Ed:=edF T K (nm T (q1 T).2).2 []
def q5 (T:List UInt8) (K N:Nat):St × List Int:=lbF T N (q4 T K).1 []
theorem Br (a b:List Ed) (ha:a.length<=maxLen):l8 (a,b)=some (decide (a=b),()):=by
 show ru BIG _=_;rw [TN];by_cases hl:a.length=b.length
 ·rw [ah (by omega),bu,ak,ab5 a b ha hl false]
  ·by_cases h:a=b<;>simp [h]
  ·intro self i x y hx hy;have hi:=(aT hx).1;simp only [show ((i:Int)<(a.length:Int)) from by omega,decide_true,af];rw [aD hi,hx,aa,aD (by omega),hy,aa,bE (by omega)];obtain ⟨x1,x2⟩:=x;obtain ⟨y1,y2⟩:=y;by_cases h1:x1=y1<;>by_cases h2:x2=y2<;>simp [h1,h2]
  ·intro self;simp
 ·rw [au (by omega),fw,af,au (fun h=>hl (by rw [h]))]
theorem nD (a b:List Int) (ha:a.length<=maxLen):nA (a,b)=some (decide (a=b),()):=by
 show kM BIG _=_;rw [uB];by_cases hl:a.length=b.length
 ·rw [ah (by omega),bu,ak,ab5 a b ha hl false]
  ·by_cases h:a=b<;>simp [h]
  ·intro self i x y hx hy;have hi:=(aT hx).1;simp only [show ((i:Int)<(a.length:Int)) from by omega,decide_true,af];rw [aD hi,hx,aa,aD (by omega),hy,aa,bE (by omega)];by_cases h1:x=y<;>simp [h1]
  ·intro self;simp
 ·rw [au (by omega),fw,af,au (fun h=>hl (by rw [h]))]
def U2 (a:An):Bool:=decide (a.1=0)&&(!a.2.1&&(decide (a.2.2.1.length=0)&&decide (a.2.2.2.length=0)))
def blO (o:xh):Bool:=decide (o.1=0)&&(decide (o.2.1=0)&&(decide (o.2.2.1.length=0)&&decide (o.2.2.2=0)))
def blQ (a b c d:Int):Bool:=decide (a=0)&&(decide (b=0)&&(decide (c=0)&&decide (d=0)))
theorem ace {α:Type} (l:List α):decide ((l.length:Int)=0)=decide (l.length=0):=decide_eq_decide.2 (by omega)
theorem ad5 (a:An):D8 a=some (U2 a,()):=by
 show D7 BIG _=_;rw [adX,ace,ace];unfold U2;cases decide (a.1=0)<;>cases a.2.1<;>cases decide (a.2.2.1.length=0)<;>rfl
theorem WJ {α:Type} [DecidableEq α] (l:List α):decide (l=[])=decide (l.length=0):=decide_eq_decide.2 List.length_eq_zero_iff.symm
theorem ad6 (a:An) (h1:a.2.2.1.length<=maxLen) (h2:a.2.2.2.length<=maxLen):Cq a=some (U2 a,()):=by
 show Co BIG _=_;rw [adg];have:oZ (a,((0:Int),false,[],[]))=oW BIG (a,((0:Int),false,[],[])):=rfl;rw [this,QQ];dsimp only;rw [Br _ _ h1,nD _ _ h2,WJ,WJ];unfold U2;cases decide (a.1=0)<;>cases a.2.1<;>cases decide (a.2.2.1.length=0)<;>rfl
abbrev Rc:=Int × Int × Int × Int × Int × Int × Int × Bool × List (Int × Int) × List Int × Int × Int × List (Int × Int) × Int
theorem anH (a b c d:Int):(decide (a=0)&&(decide (b=0)&&(decide (c=0)&&(decide (d=0)&&true))))=blQ a b c d:=by simp [blQ]
theorem acf (c:gZ) (n:Int) (hc:bS c) (hn:n<=1000000):∃r c',og (c,n)=some (r,c')/\bS c':=by
 have e:og (c,n)=CS BIG (c,n):=rfl;rw [e,adv];obtain ⟨b,c1,k1,o1⟩:=lw c 15 hc (by omega);rw [k1,aa];cases b with
 | true=>
  obtain ⟨r2,c2,k2,o2⟩:=b_ c1 [(-1:Int),n,IntKind.wrap .i64 (n+(1:Int)),(9223372036854775807:Int),(-9223372036854775808:Int)] o1 (by simp) (by simp);simp only [af,k2,aa];exact ⟨_,_,rfl,o2⟩
 | false=>
  obtain ⟨r2,c2,k2,o2,_⟩:=bO c1 n o1 hn;simp only [ak,k2,aa];exact ⟨_,_,rfl,o2⟩
theorem akN {α:Type} (a:List α) (hl:a.length<18446744073709551616) (p:α->Bool) {F:(Int->Option (Unit ⊕ Int))->Int->Option (Unit ⊕ Int)}
  (hF:∀self (i:Nat) y,a[i]?=some y->F self (i:Int)=if p y then some (.inr (i:Int)) else self ((i+1:Nat):Int))
  (hE:∀self,F self (a.length:Int)=some (.inl ())):aJ BIG F 0=some (if a.findIdx p<a.length then .inr (a.findIdx p:Int) else .inl ()):=by
 refine ik (fun (x:Int)=>∃i:Nat,x=(i:Int)/\i<=a.length/\∀j (hj:j<a.length),j<i->p a[j]=false) (fun x=>a.length-x.toNat) (fun _=>_) (fun self x ⟨i,h1,h2,h3⟩ hs => ?_) (n:=BIG) (x:=0) (by simp;exact hl) ⟨0,rfl,by simp,fun j _ hj=>by omega⟩;subst h1;by_cases hi:i<a.length
 ·rw [hF self i a[i] (aO hi)];cases hp:p a[i] with
  | true=>
   have:a.findIdx p=i:=(List.findIdx_eq hi).2 ⟨hp,fun j hj=>h3 j (by omega) hj⟩;rw [if_pos rfl,this,if_pos hi]
  | false=>
   rw [if_neg (by simp)];exact hs _ ⟨i+1,rfl,hi,fun j hj hji=>by
    by_cases hj':j=i
    ·subst hj';exact hp
    ·exact h3 j hj (by omega)⟩ (by simp;omega)
 ·have he:i=a.length:=by omega
  subst he;rw [hE,if_neg];intro h;have h4:=List.findIdx_lt_length.1 h;obtain ⟨x,hx,hpx⟩:=h4;obtain ⟨j,hj,rfl⟩:=List.getElem_of_mem hx;rw [h3 j hj hj] at hpx;cases hpx
def sA (l:List Sd) (k:Int):Int:=if l.findIdx (fun y=>decide (y.1=k))<l.length then (l.findIdx (fun y=>decide (y.1=k)):Int) else -1
theorem YL (l:List Sd) (k:Int) (hl:l.length<=1048576):Bj (l,k)=some (sA l k,()):=by
 have hm:maxLen=9223372036854775807:=by decide
 show L9 BIG _=_;rw [aki];rw [akN l (by omega) (fun y=>decide (y.1=k))]
 ·unfold sA;split<;>rfl
 ·intro self i y hy;have hi:=(aT hy).1;simp only [show ((i:Int)<(l.length:Int)) from by omega,decide_true,af];rw [aD hi,hy,aa,bE (by omega)];cases decide (y.1=k)<;>rfl
 ·intro self;simp
theorem I8 (x0:Int) (x1:List Int) (x2:List Ed) (x3:List (List Int)) (x4:List Int) (x5 x6 x7 x8 x9 x10 x11:Int) (x12:List Ed) (x13:Int) (l:List Sd) (k:Int) (hl:l.length<=1048576):rM ((x0,x1,x2,x3,x4,x5,x6,x7,x8,x9,x10,x11,x12,x13,l),k)=some (sA l k,()):=by
 have hm:maxLen=9223372036854775807:=by decide
 show G7 BIG _=_;rw [ahl];dsimp only;rw [akN l (by omega) (fun y=>decide (y.1=k))]
 ·unfold sA;split<;>rfl
 ·intro self i y hy;have hi:=(aT hy).1;simp only [show ((i:Int)<(l.length:Int)) from by omega,decide_true,af];rw [aD hi,hy,aa,bE (by omega)];cases decide (y.1=k)<;>rfl
 ·intro self;simp
theorem aoK {l:List Sd} {i:Nat} {y:Sd} (h:l[i]?=some y):decide (0<=sA (l.take i) y.1) = !decide (sA l y.1=(i:Int)):=by
 obtain ⟨hi,rfl⟩:=aT h;have hlt:l.findIdx (fun z=>decide (z.1=(l[i]).1))<l.length:=List.findIdx_lt_length.2 ⟨l[i],List.getElem_mem hi,by simp⟩;have hle:l.findIdx (fun z=>decide (z.1=(l[i]).1))<=i:=by
  by_cases hc:i<l.findIdx (fun z=>decide (z.1=(l[i]).1))
  ·have:=List.not_of_lt_findIdx hc;simp at this
  ·omega
 unfold sA;rw [if_pos hlt];by_cases he:l.findIdx (fun z=>decide (z.1=(l[i]).1))=i
 ·rw [if_neg]
  ·simp [he]
  ·intro hc;obtain ⟨z,hz,hp⟩:=List.findIdx_lt_length.1 hc;obtain ⟨j,hj,rfl⟩:=List.getElem_of_mem hz;rw [List.length_take] at hj;have:=List.not_of_lt_findIdx (xs:=l) (p:=fun z=>decide (z.1=(l[i]).1)) (i:=j) (by omega);rw [List.getElem_take] at hp;rw [this] at hp;cases hp
 ·have hc:(l.take i).findIdx (fun z=>decide (z.1=(l[i]).1))<(l.take i).length:=by
   refine List.findIdx_lt_length.2 ⟨l[l.findIdx (fun z=>decide (z.1=(l[i]).1))],?_,by exact List.findIdx_getElem (xs:=l) (p:=fun z=>decide (z.1=(l[i]).1)) (w:=hlt)⟩;refine List.mem_iff_getElem.2 ⟨l.findIdx (fun z=>decide (z.1=(l[i]).1)),by rw [List.length_take];omega,?_⟩;rw [List.getElem_take]
  rw [if_pos hc,ah (by omega),au (by omega)];rfl
def tB (a b c d sh:Int) (o:xh):Bool:=blQ a b c d&&(decide (sh=0)&&blO o)
theorem akO (a b c d sh:Int) (o:xh):Mj (a,b,c,d,sh,o)=some (tB a b c d sh o,()):=by
 show Mi BIG _=_;rw [akm,ace];dsimp only;rw [anH];unfold tB blO;cases blQ a b c d<;>cases decide (sh=0)<;>cases decide (o.1=0)<;>cases decide (o.2.1=0)<;>cases decide (o.2.2.1.length=0)<;>rfl
theorem U3 (a b c d sh:Int) (o:xh) (h1:o.2.2.1.length<=maxLen):rV (a,b,c,d,sh,o)=some (tB a b c d sh o,()):=by
 show rU BIG _=_;rw [Uj];dsimp only;rw [anH];have h0:l9 (o,((0:Int),(0:Int),[],(0:Int)))=some (blO o,()):=by
  have:l9 (o,((0:Int),(0:Int),[],(0:Int)))=rQ BIG (o,((0:Int),(0:Int),[],(0:Int))):=rfl;rw [this,Uh];dsimp only;rw [Br _ _ h1,WJ];unfold blO;cases decide (o.1=0)<;>cases decide (o.2.1=0)<;>cases decide (o.2.2.1.length=0)<;>cases decide (o.2.2.2=0)<;>rfl
 rw [h0];unfold tB;cases blQ a b c d<;>cases decide (sh=0)<;>cases blO o<;>rfl
def sO (n:Int) (k:Nat) (op a b:Int):Bool:=
 aV op 1 4&&(aV a 0 (n-1)&&(bif decide (op=4) then aV b 1 k else aV b 0 (n-1) && !(decide (a=b)&&(decide (op=1) || decide (op=2)))))
theorem akP (x0:Int) (x1:List Int) (x2:List Ed) (x3:List (List Int)) (x4:List Int) (x5 x6 x7 x8 x9 x10 x11:Int) (x12:List Ed) (x13:Int) (x14:List Sd) (i op a b:Int) (h0:1<=x0/\x0<=12):Mo ((x0,x1,x2,x3,x4,x5,x6,x7,x8,x9,x10,x11,x12,x13,x14),(i,op,a,b))=some (!sO x0 x3.length op a b,()):=by
 show Mm BIG _=_;rw [ako];dsimp only;rw [wr (by omega) (by omega)];simp only [jw];unfold sO;by_cases h4:op=4
 ·subst h4;simp only [decide_true,af,aa];cases aV 4 1 4<;>cases aV a 0 (x0-1)<;>cases aV b 1 (x3.length:Int)<;>cases decide (a=b)<;>rfl
 ·simp only [h4,decide_false,ak,aa];cases aV op 1 4<;>cases aV a 0 (x0-1)<;>cases aV b 0 (x0-1)<;>cases decide (a=b)<;>cases decide (op=1)<;>cases decide (op=2)<;>rfl
theorem P8 (x0:Int) (x1:List Int) (x2:List Ed) (x3:List (List Int)) (x4:List Int) (x5 x6 x7 x8 x9 x10 x11:Int) (x12:List Ed) (x13:Int) (x14:List Sd) (i op a b:Int) (h0:1<=x0/\x0<=12):u7 ((x0,x1,x2,x3,x4,x5,x6,x7,x8,x9,x10,x11,x12,x13,x14),(i,op,a,b))=some (sO x0 x3.length op a b,()):=by
 show CB BIG _=_;rw [ado];dsimp only;rw [wr (by omega) (by omega)];simp only [bX];unfold sO;by_cases h4:op=4
 ·subst h4;simp only [decide_true,af,aa];cases aV 4 1 4<;>cases aV a 0 (x0-1)<;>cases aV b 1 (x3.length:Int)<;>rfl
 ·simp only [h4,decide_false,ak,aa];by_cases h3:op=3
  ·subst h3;simp only [decide_true,af,aa];cases aV 3 1 4<;>cases aV a 0 (x0-1)<;>cases aV b 0 (x0-1)<;>cases decide (a=b)<;>rfl
  ·simp only [h3,decide_false,ak];cases hq:aV op 1 4 with
   | false=>rfl
   | true=>
    have:(decide (op=1) || decide (op=2))=true:=by
     rw [aQ] at hq;by_cases op=1<;>by_cases op=2<;>simp_all<;>omega
    rw [this];cases aV a 0 (x0-1)<;>cases aV b 0 (x0-1)<;>cases decide (a=b)<;>rfl
theorem gD {α:Type} {l:List α} {i:Nat} {y d:α} (h:l[i]?=some y):l.getD i d=y:=by rw [bJ,h];rfl
def p1 (k:Nat) (l:List Int) (i:Nat):Bool:=aV (l.getD i 0) 1 k
def p2 (own:List Int) (cuts:List Ed) (i:Nat):Bool:=!decide (own.getD (cuts.getD i (0,0)).1.toNat 0=own.getD (cuts.getD i (0,0)).2.toNat 0)
def p3 (n:Int) (L:List (List Int)) (nums:List Int) (i:Nat):Bool:=mX n (L.getD i [])&&aV (nums.getD i 0) 0 99991
def p4c (l:List Sd) (i:Nat) (y:Sd):Bool:=decide (y.1=y.2.1)&&(aV y.2.2.2.2.2 1 3&&decide (sA l y.1=(i:Int)))
def p4 (l:List Sd) (i:Nat):Bool:=p4c l i (l.getD i (0,0,0,0,0,0))
abbrev oP1 (k:Nat) (l:List Int):Prop:=∀i,i<l.length->p1 k l i=true
abbrev oP2 (own:List Int) (cuts:List Ed):Prop:=∀i,i<cuts.length->p2 own cuts i=true
abbrev oP3 (n:Int) (L:List (List Int)) (nums:List Int):Prop:=∀i,i<L.length->p3 n L nums i=true
abbrev tT (l:List Sd):Prop:=∀i,i<l.length->p4 l i=true
theorem afJ (own:List Int) (cuts:List Ed) (n:Int) (he:iT n cuts=true) (hn:(own.length:Int)=n) {B:Type} (self:Int->Option (Unit ⊕ Bool)) (i:Nat) (y:Ed) (hy:cuts[i]?=some y) (hl:cuts.length<=1048576) :
  (bnd own.length y.1 fun n12=>
   Option.bind own[n12]? fun y13=>
   bnd own.length y.2 fun n14=>
   Option.bind own[n14]? fun y15=>
   bif decide (y13=y15) then some (Sum.inr false)
   else self (IntKind.wrap .i64 ((i:Int)+(1:Int))))=if p2 own cuts i then self ((i+1:Nat):Int) else some (.inr false):=by
 have hm:maxLen=9223372036854775807:=by decide
 have hi:=(aT hy).1;subst hn;have hb:=dC ((iO he).1 y (List.mem_of_getElem? hy));have h1:own[y.1.toNat]?=some (own[y.1.toNat]'(by omega)):=aO (by omega);have h2:own[y.2.toNat]?=some (own[y.2.toNat]'(by omega)):=aO (by omega);rw [bG (by omega) (by omega),h1,aa,bG (by omega) (by omega),h2,aa,bE (by omega)];unfold p2;rw [gD hy,gD h1,gD h2];cases decide (own[y.1.toNat]'(by omega)=own[y.2.toNat]'(by omega))<;>rfl
open Classical in
noncomputable def sP (n:Int) (own:List Int) (cuts:List Ed) (L:List (List Int)) (nums:List Int) (said:List Sd) (t:Bool):Bool:=
 decide ((aV n 1 12=true/\aV (L.length:Int) 1 3=true/\nums.length=L.length)/\oP3 n L nums/\((own.length:Int)=n/\iT n cuts=true)/\oP1 L.length own/\oP2 own cuts/\(tT said/\said.length<=80)/\t=true)
def om (n:Int) (k:Nat) (nums:List Int) (said:List Sd) (id op a b sh:Int) (o:xh):Bool:=
 tB id op a b sh o || ((aV id 1 100000&&(!decide (op=3)&&sO n k op a b))&&(aV sh 1 k&&(mW n o&&(decide (o.1=IntKind.wrap .i64 (nums.getD (sh-1).toNat 0+1))&&decide (sA said id<0)))))
theorem akS (x0:Int) (x1:List Int) (x2:List Ed) (x3:List (List Int)) (x4:List Int) (x5 x6 x7 x8 x9 x10 x11:Int) (x12:List Ed) (x13:Int) (x14:List Sd) (h0:1<=x0/\x0<=12) (h4:x4.length=x3.length) (hk:x3.length<=3) (h12:x12.length<=1048576) (h14:x14.length<=1048576) :
  Mt (x0,x1,x2,x3,x4,x5,x6,x7,x8,x9,x10,x11,x12,x13,x14)=some (om x0 x3.length x4 x14 x5 x6 x7 x8 x9 (x10,x11,x12,x13),()):=by
 show Ms BIG _=_;rw [akq];dsimp only;rw [akO x5 x6 x7 x8 x9 (x10,x11,x12,x13),aa,akP _ _ _ _ _ _ _ _ _ _ _ _ _ _ _ _ _ _ _ h0];simp only [jw];unfold om;cases tB x5 x6 x7 x8 x9 (x10,x11,x12,x13) with
 | true=>rfl
 | false=>
  simp only [ak,aa,Bool.false_or];cases aV x5 1 100000 with
  | false=>rfl
  | true=>
   cases decide (x6=3) with
   | true=>rfl
   | false=>
    cases sO x0 x3.length x6 x7 x8 with
    | false=>rfl
    | true=>
     simp only [bu,ak,aa,fw,Bool.and_self,Bool.true_and];cases hs:aV x9 1 (x3.length:Int) with
     | false=>rfl
     | true=>
      rw [UW x0 (x10,x11,x12,x13) h12];simp only [af,aa,Bool.true_and];cases mW x0 (x10,x11,x12,x13) with
      | false=>rfl
      | true=>
       rw [aQ] at hs;have h1:x4[(x9-1).toNat]?=some (x4[(x9-1).toNat]'(by omega)):=aO (by omega);rw [af,wr (n:=x9-1) (by omega) (by omega),bG (by omega) (by omega),h1,aa,gD h1,YL x14 x5 h14];simp only [Bool.true_and];cases decide (x10=IntKind.wrap .i64 (x4[(x9-1).toNat]'(by omega)+1))<;>rfl
theorem aci (x0:Int) (x1:List Int) (x2:List Ed) (x3:List (List Int)) (x4:List Int) (x5 x6 x7 x8 x9 x10 x11:Int) (x12:List Ed) (x13:Int) (x14:List Sd) (h0:1<=x0/\x0<=12) (h4:x4.length=x3.length) (hk:x3.length<=3) (h12:x12.length<=1048576) (h14:x14.length<=1048576) :
  zm (x0,x1,x2,x3,x4,x5,x6,x7,x8,x9,x10,x11,x12,x13,x14)=some (om x0 x3.length x4 x14 x5 x6 x7 x8 x9 (x10,x11,x12,x13),()):=by
 have hm:maxLen=9223372036854775807:=by decide
 show zl BIG _=_;rw [abk];dsimp only;rw [U3 x5 x6 x7 x8 x9 (x10,x11,x12,x13) (by simp only;omega),aa,P8 _ _ _ _ _ _ _ _ _ _ _ _ _ _ _ _ _ _ _ h0,I8 _ _ _ _ _ _ _ _ _ _ _ _ _ _ _ _ h14];simp only [bX];unfold om;cases tB x5 x6 x7 x8 x9 (x10,x11,x12,x13) with
 | true=>rfl
 | false=>
  simp only [ak,aa,Bool.false_or];cases hs:aV x9 1 (x3.length:Int) with
  | false=>simp
  | true=>
   rw [UV x0 (x10,x11,x12,x13) h12];simp only [af,aa,Bool.true_and];cases mW x0 (x10,x11,x12,x13) with
   | false=>simp
   | true=>
    rw [aQ] at hs;have h1:x4[(x9-1).toNat]?=some (x4[(x9-1).toNat]'(by omega)):=aO (by omega);rw [af,wr (n:=x9-1) (by omega) (by omega),bG (by omega) (by omega),h1,aa,gD h1];simp only [Bool.true_and];cases decide (x10=IntKind.wrap .i64 (x4[(x9-1).toNat]'(by omega)+1))<;>cases decide (sA x14 x5<0)<;>cases sO x0 x3.length x6 x7 x8<;>cases decide (x6=3)<;>cases aV x5 1 100000<;>rfl
open Classical in
theorem amB (x0:Int) (x1:List Int) (x2:List Ed) (x3:List (List Int)) (x4:List Int) (x5 x6 x7 x8 x9 x10 x11:Int) (x12:List Ed) (x13:Int) (x14:List Sd) (h1:x1.length<=1048576) (h2:x2.length<=1048576) :
  Q6 (x0,x1,x2,x3,x4,x5,x6,x7,x8,x9,x10,x11,x12,x13,x14)=some (decide (((x1.length:Int)=x0/\iT x0 x2=true)/\oP1 x3.length x1/\oP2 x1 x2),()):=by
 have hm:maxLen=9223372036854775807:=by decide
 show Q5 BIG _=_;rw [ame];dsimp only;rw [xS x0 x2 h2];by_cases hn:(x1.length:Int)=x0
 ·cases he:iT x0 x2 with
  | false=>simp [hn]
  | true=>
   rw [ah hn];simp only [bu,ak,aa];rw [iL x1 (by omega) (p1 x3.length x1) false]
   ·by_cases hp:oP1 x3.length x1
    ·rw [if_pos hp];simp only [aa];rw [iL x2 (by omega) (p2 x1 x2) false]
     ·by_cases hq:oP2 x1 x2
      ·rw [if_pos hq,ah (by exact ⟨⟨hn,by first|rfl|trivial|exact he⟩,hp,hq⟩)];rfl
      ·rw [if_neg hq,au (fun h=>hq h.2.2)];rfl
     ·intro self i y hy;have hi:=(aT hy).1;simp only [show ((i:Int)<(x2.length:Int)) from by omega,decide_true,af];rw [aD hi,hy,aa];exact afJ x1 x2 x0 he hn (B:=Unit) self i y hy h2
     ·intro self;simp
    ·rw [if_neg hp,au (fun h=>hp h.2.1)];rfl
   ·intro self i y hy;have hi:=(aT hy).1;simp only [show ((i:Int)<(x1.length:Int)) from by omega,decide_true,af];rw [aD hi,hy,aa,jw,aa,bE (by omega)];unfold p1;rw [gD hy];cases aV y 1 (x3.length:Int)<;>rfl
   ·intro self;simp
 ·rw [au hn];simp [hn]
open Classical in
theorem akT (l:List Sd) (hl:l.length<=1048576):Mf l=some (decide (tT l/\l.length<=80),()):=by
 have hm:maxLen=9223372036854775807:=by decide
 show Me BIG _=_;rw [akk];rw [iL l (by omega) (p4 l) false]
 ·by_cases hp:tT l
  ·rw [if_pos hp];by_cases hq:l.length<=80
   ·have e:decide (tT l/\l.length<=80)=true:=ah ⟨hp,hq⟩;have e2:decide ((l.length:Int)<=80)=true:=ah (by omega);rw [e,e2];rfl
   ·have e:decide (tT l/\l.length<=80)=false:=au (fun h=>hq h.2);have e2:decide ((l.length:Int)<=80)=false:=au (by omega);rw [e,e2];rfl
  ·have e:decide (tT l/\l.length<=80)=false:=au (fun h=>hp h.1);rw [if_neg hp,e];rfl
 ·intro self i y hy;have hi:=(aT hy).1;simp only [show ((i:Int)<(l.length:Int)) from by omega,decide_true,af];rw [aD hi,hy,aa,jw,bE (by omega),ah (show (0:Int)<=(i:Int) from by omega),ah (show 0<=Int.toNat (i:Int)/\Int.toNat (i:Int)<=l.length from ⟨by omega,by omega⟩),gq,Nat.sub_zero,List.drop_zero,YL _ _ (by rw [List.length_take];omega)];simp only [af,aa];rw [aoK hy];unfold p4;rw [gD hy];unfold p4c;cases decide (y.1=y.2.1)<;>cases aV y.2.2.2.2.2 1 3<;>cases decide (sA l y.1=(i:Int))<;>rfl
 ·intro self;simp
theorem aqy {n:Int} {own:List Int} {cuts:List Ed} {L:List (List Int)} {nums:List Int} {said:List Sd} {t:Bool} (h:(aV n 1 12=true/\aV (L.length:Int) 1 3=true/\nums.length=L.length)/\oP3 n L nums/\((own.length:Int)=n/\iT n cuts=true)/\oP1 L.length own/\oP2 own cuts/\(tT said/\said.length<=80)/\t=true):sP n own cuts L nums said t=true:=by
 unfold sP;exact ah h
theorem lV {n:Int} {own:List Int} {cuts:List Ed} {L:List (List Int)} {nums:List Int} {said:List Sd} {t:Bool} (h:(aV n 1 12=true/\aV (L.length:Int) 1 3=true/\nums.length=L.length)/\oP3 n L nums/\((own.length:Int)=n/\iT n cuts=true)/\oP1 L.length own/\oP2 own cuts/\(tT said/\said.length<=80)/\t=true->False):sP n own cuts L nums said t=false:=by
 unfold sP;exact au h
open Classical in
theorem akU (x0:Int) (x1:List Int) (x2:List Ed) (x3:List (List Int)) (x4:List Int) (x5 x6 x7 x8 x9 x10 x11:Int) (x12:List Ed) (x13:Int) (x14:List Sd) (h1:x1.length<=1048576) (h2:x2.length<=1048576) (h3:x3.length<=1048576/\∀y,y∈x3->y.length<=1048576) (h12:x12.length<=1048576) (h14:x14.length<=1048576) :
  MB (x0,x1,x2,x3,x4,x5,x6,x7,x8,x9,x10,x11,x12,x13,x14)=some (sP x0 x1 x2 x3 x4 x14 (om x0 x3.length x4 x14 x5 x6 x7 x8 x9 (x10,x11,x12,x13)),()):=by
 have hm:maxLen=9223372036854775807:=by decide
 show Mx BIG _=_;rw [aks];dsimp only;rw [amB _ _ _ _ _ _ _ _ _ _ _ _ _ _ _ h1 h2,akT _ h14];simp only [jw];cases ha:aV x0 1 12 with
 | false=>rw [lV (fun h=>by rw [ha] at h;cases h.1.1)];rfl
 | true=>
  cases hb:aV (x3.length:Int) 1 3 with
  | false=>rw [lV (fun h=>by rw [hb] at h;cases h.1.2.1)];rfl
  | true=>
   by_cases hc:x4.length=x3.length
   ·rw [ah (show (x4.length:Int)=(x3.length:Int) from by omega)];simp only [bu,ak,aa];rw [iL x3 (by omega) (p3 x0 x3 x4) false]
    ·by_cases hp:oP3 x0 x3 x4
     ·rw [if_pos hp];have ha0:=ha;have hb0:=hb;rw [aQ] at ha hb;rw [akS _ _ _ _ _ _ _ _ _ _ _ _ _ _ _ ha hc (by omega) h12 h14];simp only [aa];by_cases q1:((x1.length:Int)=x0/\iT x0 x2=true)/\oP1 x3.length x1/\oP2 x1 x2
      ·by_cases q2:tT x14/\x14.length<=80
       ·cases q3:om x0 x3.length x4 x14 x5 x6 x7 x8 x9 (x10,x11,x12,x13) with
        | false=>rw [ah q1,ah q2,lV (fun h=>by cases h.2.2.2.2.2.2)];rfl
        | true=>rw [ah q1,ah q2,aqy ⟨⟨ha0,hb0,hc⟩,hp,q1.1,q1.2.1,q1.2.2,q2,rfl⟩];rfl
       ·rw [ah q1,au q2,lV (fun h=>q2 h.2.2.2.2.2.1)];rfl
      ·rw [au q1,lV (fun h=>q1 ⟨h.2.2.1,h.2.2.2.1,h.2.2.2.2.1⟩)];rfl
     ·rw [if_neg hp,lV (fun h=>hp h.2.1)];rfl
    ·intro self i y hy;have hi:=(aT hy).1;have hz:x4[i]?=some (x4[i]'(by omega)):=aO (by omega);simp only [show ((i:Int)<(x3.length:Int)) from by omega,decide_true,af];simp only [aD hi,hy,aa,PZ x0 y (h3.2 y (List.mem_of_getElem? hy)),aD (show i<x4.length from by omega),hz,bE (show i<maxLen from by omega)];unfold p3;rw [gD hy,gD hz];cases mX x0 y<;>cases aV (x4[i]'(by omega)) 0 99991<;>rfl
    ·intro self;simp
   ·rw [au (show ¬(x4.length:Int)=(x3.length:Int) from by omega),lV (fun h=>hc h.1.2.2)];rfl
open Classical in
theorem YM (x0 : Int) (x1 : List Int) (x2 : List Ed) (x3 : List (List Int)) (x4 : List Int) (x5 x6 x7 x8 x9 x10 x11 : Int) (x12 : List Ed) (x13 : Int) (x14 : List Sd) (h1 : x1.length ≤ 1048576) (h2 : x2.length ≤ 1048576) (h3 : x3.length ≤ 1048576 ∧ ∀ y, y ∈ x3 → y.length ≤ 1048576) (h12 : x12.length ≤ 1048576) (h14 : x14.length ≤ 1048576) :
    Bd (x0, x1, x2, x3, x4, x5, x6, x7, x8, x9, x10, x11, x12, x13, x14) = some (sP x0 x1 x2 x3 x4 x14 (om x0 x3.length x4 x14 x5 x6 x7 x8 x9 (x10, x11, x12, x13)), ()) := by
  have hm : maxLen = 9223372036854775807 := by decide
  show Lb BIG _ = _;rw [aj4];dsimp only;rw [vG x0 x2 h2];simp only [bX];cases ha : aV x0 1 12 with
  | false => rw [lV (fun h => by rw [ha] at h; cases h.1.1)]; rfl
  | true =>
    cases hb : aV (x3.length : Int) 1 3 with
    | false => rw [lV (fun h => by rw [hb] at h; cases h.1.2.1)]; rfl
    | true =>
      by_cases hc : x4.length = x3.length
      · rw [ah (show (x4.length : Int) = (x3.length : Int) from by omega)]
        simp only [bu, ak, aa]
        by_cases hn : (x1.length : Int) = x0
        · rw [ah hn]
          cases he : iT x0 x2 with
          | false => rw [lV (fun h => by rw [he] at h; cases h.2.2.1.2)]; rfl
          | true =>
            simp only [bu, ak, aa];by_cases hs : x14.length ≤ 80
            · rw [au (show ¬ (80 : Int) < (x14.length : Int) from by omega), ak]
              rw [iL x3 (by omega) (p3 x0 x3 x4) false]
              · by_cases hp : oP3 x0 x3 x4
                · rw [if_pos hp]
                  simp only [aa]
                  have L1 := iL x1 (by omega) (p1 x3.length x1) false (F := fun (self16 : Int → Option (Unit ⊕ Bool)) (x15 : Int) =>
                     bif decide (x15 < x0) then
                      bnd x1.length x15 fun n17 =>
                      Option.bind x1[n17]? fun y18 =>
                      bif !aV y18 (1 : Int) (x3.length : Int) then
                       some (Sum.inr false)
                      else self16 (IntKind.wrap .i64 (x15 + (1 : Int)))
                     else some (Sum.inl ())) (by
                    intro self i y hy
                    have hi := (aT hy).1
                    simp only [show ((i : Int) < x0) from by omega, decide_true, af]
                    rw [aD hi, hy, aa, bE (by omega)]
                    unfold p1
                    rw [gD hy]
                    cases aV y 1 (x3.length : Int) <;> rfl) (by
                    intro self
                    simp [hn])
                  rw [L1]
                  by_cases hp1 : oP1 x3.length x1
                  · rw [if_pos hp1]
                    simp only [aa]
                    rw [iL x2 (by omega) (p2 x1 x2) false]
                    · by_cases hp2 : oP2 x1 x2
                      · rw [if_pos hp2]
                        simp only [aa]
                        rw [iL x14 (by omega) (p4 x14) false]
                        · by_cases hp4 : tT x14
                          · rw [if_pos hp4]
                            have ha0 := ha
                            have hb0 := hb
                            rw [aQ] at ha hb
                            simp only [aa]
                            rw [aci _ _ _ _ _ _ _ _ _ _ _ _ _ _ _ ha hc (by omega) h12 h14]
                            simp only [aa]
                            cases q3 : om x0 x3.length x4 x14 x5 x6 x7 x8 x9 (x10, x11, x12, x13) with
                            | false => rw [lV (fun h => by cases h.2.2.2.2.2.2)]
                            | true => rw [aqy ⟨⟨ha0, hb0, hc⟩, hp, ⟨hn, he⟩, hp1, hp2, ⟨hp4, hs⟩, rfl⟩]
                          · rw [if_neg hp4, lV (fun h => hp4 h.2.2.2.2.2.1.1)]; rfl
                        · intro self i y hy
                          have hi := (aT hy).1
                          simp only [show ((i : Int) < (x14.length : Int)) from by omega, decide_true, af]
                          simp only [aD hi, hy, aa, bE (show i < maxLen from by omega), I8 _ _ _ _ _ _ _ _ _ _ _ _ _ _ _ _ h14]
                          unfold p4
                          rw [gD hy]
                          unfold p4c
                          cases decide (y.1 = y.2.1) <;> cases aV y.2.2.2.2.2 1 3 <;> cases decide (sA x14 y.1 = (i : Int)) <;> rfl
                        · intro self; simp
                      · rw [if_neg hp2, lV (fun h => hp2 h.2.2.2.2.1)]; rfl
                    · intro self i y hy
                      have hi := (aT hy).1
                      simp only [show ((i : Int) < (x2.length : Int)) from by omega, decide_true, af]
                      simp only [aD hi, hy, aa]
                      exact afJ x1 x2 x0 he hn (B := Unit) self i y hy h2
                    · intro self; simp
                  · rw [if_neg hp1, lV (fun h => hp1 h.2.2.2.1)]; rfl
                · rw [if_neg hp, lV (fun h => hp h.2.1)]; rfl
              · intro self i y hy
                have hi := (aT hy).1
                have hz : x4[i]? = some (x4[i]'(by omega)) := aO (by omega)
                simp only [show ((i : Int) < (x3.length : Int)) from by omega, decide_true, af]
                simp only [aD hi, hy, aa, M3 x0 y (h3.2 y (List.mem_of_getElem? hy)), aD (show i < x4.length from by omega), hz, bE (show i < maxLen from by omega)]
                unfold p3
                rw [gD hy, gD hz]
                cases mX x0 y <;> cases aV (x4[i]'(by omega)) 0 99991 <;> rfl
              · intro self; simp
            · rw [ah (show (80 : Int) < (x14.length : Int) from by omega), lV (fun h => hs h.2.2.2.2.2.1.2)]; rfl
        · rw [au hn, lV (fun h => hn h.2.2.1.1)]; rfl
      · rw [au (show ¬ (x4.length : Int) = (x3.length : Int) from by omega), lV (fun h => hc h.1.2.2)]; rfl
theorem M6 {S α:Type} (p:α->Bool) (f:S->α->S):∀(l:List α) (s:S),fM (fun s y=>if p y=true then some (f s y) else none) s l=if l.all p=true then some (l.foldl f s) else none
 | [],s=>by simp [fM]
 | y::l,s=>by
  rw [fM];cases hp:p y with
  | false=>simp [hp]
  | true=>simp only [if_true,aa,M6 p f l,List.all_cons,hp,Bool.true_and,List.foldl_cons]
def Bt (l:List Int):List Ed:=l.zipIdx.map fun p=>(p.1,(p.2:Int))
def vP (l:List Int):Bool:=l.zipIdx.all fun p=>aV p.1 0 (p.2:Int)
def pL (n:Int) (l:List Int):Bool:=decide ((l.length:Int)=n)&&vP l
def wlB (n:Int) (L:List (List Int)) (cuts:List Ed):Bool:=aV n 1 12&&(decide (L.length<=3)&&(L.all (pL n)&&cuts.all (dh n)))
def JD (n:Int) (L:List (List Int)) (cuts:List Ed):List Int × Bool:=if wlB n L cuts=true then (labs n.toNat (L.flatMap Bt++cuts),true) else ([],false)
theorem M7 {l:List Int} {i:Nat} {p:Int × Nat} (h:l.zipIdx[i]?=some p):l[i]?=some p.1/\p.2=i:=by
 rw [List.getElem?_zipIdx] at h;cases hl:l[i]? with
 | none=>rw [hl] at h;simp at h
 | some x=>rw [hl] at h;simp at h;subst h;simp
theorem arc {n:Nat} {l:List Int} (hl:l.length=n) (h:vP l=true):jX n (Bt l):=by
 intro e he;obtain ⟨p,hp,rfl⟩:=List.mem_map.1 he;obtain ⟨i,hi,rfl⟩:=List.getElem_of_mem hp;have h1:=List.all_eq_true.1 h _ hp;obtain ⟨h2,h3⟩:=M7 (aO hi);rw [aQ] at h1;rw [List.length_zipIdx] at hi;refine ⟨h1.1,?_,?_,?_⟩<;>(simp only;omega)
def M8 (l:List Int):List Ed:=(Bt l).filter fun e=>decide (e.1<e.2)
theorem I9:∀(E:List Ed) (s:List Int),(∀e,e∈E->e.1<=e.2)->(E.filter fun e=>decide (e.1<e.2)).foldl unE s=E.foldl unE s
 | [],s,_=>rfl
 | e::E,s,h=>by
  rw [List.filter_cons];by_cases he:e.1<e.2
  ·rw [ah he,if_pos rfl,List.foldl_cons,List.foldl_cons];exact I9 E _ fun e' he'=>h e' (List.mem_cons_of_mem _ he')
  ·have h1:=h e (List.mem_cons_self ..);have h2:e.1=e.2:=by omega
   rw [au he,if_neg (by simp),List.foldl_cons,show unE s e=s from by unfold unE;rw [h2,ab7]];exact I9 E s fun e' he'=>h e' (List.mem_cons_of_mem _ he')
theorem aoL {n:Nat} {L:List (List Int)} (cuts:List Ed) (h:L.all (pL n)=true):labs n (L.flatMap M8++cuts)=labs n (L.flatMap Bt++cuts):=by
 unfold labs;rw [List.foldl_append,List.foldl_append];congr 1;have e1:L.flatMap M8=(L.flatMap Bt).filter fun e=>decide (e.1<e.2):=by
  rw [List.filter_flatMap];rfl
 rw [e1,I9];intro e he;obtain ⟨l,hl,hel⟩:=List.mem_flatMap.1 he;have h1:=List.all_eq_true.1 h l hl;simp only [pL,aP,decide_eq_true_eq] at h1;obtain ⟨p,hp,rfl⟩:=List.mem_map.1 hel;have h2:=List.all_eq_true.1 h1.2 p hp;rw [aQ] at h2;exact h2.2
theorem ard {n:Nat} {L:List (List Int)} {cuts:List Ed} (h:L.all (pL n)=true) (hc:cuts.all (dh n)=true):jX n (L.flatMap M8++cuts):=by
 intro e he;rcases List.mem_append.1 he with he|he
 ·obtain ⟨l,hl,hel⟩:=List.mem_flatMap.1 he;have h1:=List.all_eq_true.1 h l hl;simp only [pL,aP,decide_eq_true_eq] at h1;exact arc (by omega) h1.2 e (List.mem_filter.1 hel).1
 ·have:=dC (List.all_eq_true.1 hc e he);exact ⟨this.1,this.2.1,this.2.2.1,this.2.2.2.1⟩
theorem acj:∀(l:List (Int × Nat)) (s:List Ed),l.foldl (fun (s:List Ed) p=>if p.1<(p.2:Int) then s++[(p.1,(p.2:Int))] else s) s=s++((l.map fun p=>(p.1,(p.2:Int))).filter fun e=>decide (e.1<e.2))
 | [],s=>by simp
 | p::l,s=>by
  rw [List.foldl_cons,acj l,List.map_cons,List.filter_cons];by_cases h:p.1<(p.2:Int)
  ·simp [h]
  ·simp [h]
theorem YN {α β:Type} (f:α->List β):∀(L:List α) (s:List β),L.foldl (fun s l=>s++f l) s=s++L.flatMap f
 | [],s=>by simp
 | l::L,s=>by rw [List.foldl_cons,YN f L,List.flatMap_cons,List.append_assoc]
theorem WK (n:Int) (L:List (List Int)) (cuts:List Ed) (hL:L.length<=1048576) (hc:cuts.length<=1048576):uF (n,L,cuts)=some (if cuts.length<=1000 then JD n L cuts else ([],false),()):=by
 have hm:maxLen=9223372036854775807:=by decide
 show uE BIG _=_;rw [V8,bX];unfold JD wlB;cases hn:aV n 1 12 with
 | false=>simp
 | true=>
  rw [aQ] at hn;obtain ⟨k,rfl⟩:∃k:Nat,n=(k:Int):=⟨n.toNat,by omega⟩
  by_cases h3:L.length<=3;case neg=>rw [au h3];simp only [aa,bu,ak];rw [ah (by omega)];simp
  rw [ah h3];simp only [aa,bu,ak,Bool.true_and];rw [au (show ¬(3:Int)<(L.length:Int) from by omega),ak];by_cases h1000:cuts.length<=1000;case neg=>rw [ah (by omega),if_neg h1000];rfl
  rw [au (by omega),if_pos h1000];simp only [aa,ak];rw [I4 L (by omega) (fun i (s:List Ed)=>s.length<=12*i) (fun s l=>if pL k l=true then some (s++M8 l) else none) (([],false):List Int × Bool) (by simp) (fun i s y s' hy hs he=>by
   split at he
   ·rename_i hp
    cases he
    simp only [pL,aP,decide_eq_true_eq] at hp
    have h4:(M8 y).length<=y.length:=by
     unfold M8 Bt
     refine Nat.le_trans (List.length_filter_le _ _) ?_
     simp
    rw [bY];omega
   ·cases he) (fun self s i y hy hs => ?_) (fun self s hs=>by simp)]
  ·rw [M6];cases hall:L.all (pL k) with
   | false=>rfl
   | true=>
    simp only [if_true,aa,YN,Bool.true_and,List.nil_append];have hfl:(L.flatMap M8).length<=36:=by
     have:∀M:List (List Int),M.all (pL k)=true->(M.flatMap M8).length<=12*M.length:=by
      intro M;induction M with
      | nil=>intro _;simp
      | cons y M ih=>
       intro h;simp only [List.all_cons,aP] at h;have h5:=ih h.2;have hp:=h.1;simp only [pL,aP,decide_eq_true_eq] at hp;have h4:(M8 y).length<=y.length:=by
        unfold M8 Bt;refine Nat.le_trans (List.length_filter_le _ _) ?_;simp
       rw [List.flatMap_cons,bY,a_];omega
     have:=this L hall;omega
    rw [I4 cuts (by omega) (fun i (s:List Ed)=>s.length<=36+i) (fun s e=>if dh k e=true then some (s++[e]) else none) (([],false):List Int × Bool) (by omega) (fun i s y s' hy hs he=>by
     split at he
     ·cases he;simp;omega
     ·cases he) (fun self s i y hy hs => ?_) (fun self s hs=>by simp)]
    ·rw [M6];cases hcall:cuts.all (dh k) with
     | false=>rfl
     | true=>
      have hfold:∀(l:List Ed) (s:List Ed),l.foldl (fun s e=>s++[e]) s=s++l:=by
       intro l;induction l with
       | nil=>intro s;simp
       | cons e l ih=>intro s;rw [List.foldl_cons,ih];simp
      simp only [if_true,aa,gq,hfold];rw [sN k _ (by omega) (ard hall hcall) (by rw [bY];omega),aa,aoL cuts hall]
    ·have hi:=(aT hy).1;simp only [show ((i:Int)<(cuts.length:Int)) from by omega,decide_true,af];rw [aD hi,hy,aa,Bq,bE (by omega)];cases he:dh k y with
     | false=>rfl
     | true=>
      simp only [aa,bu,ak,if_true];rw [aD hi,hy,aa,ah (by simp only [a_,List.length_nil];omega)];rfl
  ·have hi:=(aT hy).1;simp only [show ((i:Int)<(L.length:Int)) from by omega,decide_true,af];rw [aD hi,hy,aa,bE (by omega)];by_cases hlen:(y.length:Int)=(k:Int)
   case neg=>unfold pL;rw [au hlen];rfl
   rw [ah hlen,bu,ak];have hz:(y.zipIdx).length=y.length:=List.length_zipIdx;rw [I4 y.zipIdx (by omega) (fun j (t:List Ed)=>t.length<=12*i+j) (fun s p=>if aV p.1 0 (p.2:Int)=true then some (if p.1<(p.2:Int) then s++[(p.1,(p.2:Int))] else s) else none) (([],false):List Int × Bool) (by omega) (fun i s y s' hy hs he=>by
    split at he
    ·cases he
     split
     ·simp;omega
     ·omega
    ·cases he) (fun self s j p hp hs => ?_) (fun self s hs=>by simp only [hz,show ¬((y.length:Int)<(k:Int)) from by omega,decide_false,ak])]
   ·rw [M6];have e1:pL k y=vP y:=by unfold pL;rw [ah hlen,Bool.true_and]
    rw [e1];unfold vP M8 Bt;cases y.zipIdx.all fun p=>aV p.1 0 (p.2:Int) with
    | false=>rfl
    | true=>simp only [if_true,aa,acj]
   ·obtain ⟨hp1,hp2⟩:=M7 hp;have hj:=(aT hp1).1;obtain ⟨x,v⟩:=p;simp only at hp1 hp2;subst hp2;simp only [show ((v:Int)<(k:Int)) from by omega,decide_true,af];rw [bE (by omega)];simp only [aD hi,hy,aa,aD hj,hp1,bX];cases hx:aV x 0 (v:Int) with
    | false=>rfl
    | true=>
     simp only [bu,ak,if_true];by_cases hxv:x<(v:Int)
     ·rw [ah hxv,af,if_pos hxv,ah (by simp only [a_,List.length_nil];omega),af];rfl
     ·rw [au hxv,ak,if_neg hxv];rfl
abbrev JE:=Int × List Int × List (Int × Int) × List (List Int) × List Int × Int × Int × Int × Int × Int × Int × Int × List (Int × Int) × Int × List (Int × Int × Int × Int × Int × Int) × Int
theorem akW (L:List (List Int)) (s:Hd):L.foldl (fun (s:Hd) y=>(s.1,s.2.1,s.2.2.1,s.2.2.2.1++[y],s.2.2.2.2)) s=(s.1,s.2.1,s.2.2.1,s.2.2.2.1++L,s.2.2.2.2):=by
 induction L generalizing s with
 | nil=>simp
 | cons y L ih=>rw [List.foldl_cons,ih];simp
theorem vH (l:List Int) (h:l.length<=1048576):jf l=some (l,()):=by
 show vk BIG _=_;rw [Pm,ah (by omega)];rfl
theorem ad7 (x0:Int) (x1:List Int) (x2:List Ed) (x3:List (List Int)) (x4:List Int) (x5 x6 x7 x8 x9 x10 x11:Int) (x12:List Ed) (x13:Int) (x14:List Sd) (h1:x1.length<=1048576) (h2:x2.length<=1048576) (h3:x3.length<=1048576/\∀y,y∈x3->y.length<=1048576) (h4:x4.length<=1048576) (h12:x12.length<=1048576) (h14:x14.length<=1048576) :
  Dk (x0,x1,x2,x3,x4,x5,x6,x7,x8,x9,x10,x11,x12,x13,x14)=some ((x0,x1,x2,x3,x4,x5,x6,x7,x8,x9,x10,x11,x12,x13,x14),()):=by
 have hm:maxLen=9223372036854775807:=by decide
 show Dj BIG _=_;rw [adE];dsimp only;have ht:Df (x5,x6,x7,x8,x9,x10,x11,x12,x13)=some ((x5,x6,x7,x8,x9,x10,x11,x12,x13),()):=by
  show De BIG _=_;rw [adC,Ap x12 h12];rfl
 rw [vH x1 h1,aa,Ap x2 h2,aa,vH x4 h4,aa,ht,aa,ah (by omega),af];rw [gT x3 (by omega) (fun i (s:Hd)=>s.2.2.2.1.length=i) (fun (s:Hd) y=>(s.1,s.2.1,s.2.2.1,s.2.2.2.1++[y],s.2.2.2.2)) id rfl (fun i s y _ h=>by simp only [bY,a_,List.length_nil];omega) (fun self s i y hy hs => ?_) (fun self s _=>by simp)]
 ·rw [akW];simp
 ·have hi:=(aT hy).1;simp only [show ((i:Int)<(x3.length:Int)) from by omega,decide_true,af];rw [aD hi,hy,aa,vH y (h3.2 y (List.mem_of_getElem? hy)),aa,ah (by simp only [a_,List.length_nil];omega),af,bE (by omega)]
theorem xX (x0:Int) (x1:List Int) (x2:List Ed) (x3:List (List Int)) (x4:List Int) (x5 x6 x7 x8 x9 x10 x11:Int) (x12:List Ed) (x13:Int) (x14:List Sd) (h1:x1.length<=1048576) (h2:x2.length<=1048576) (h3:x3.length<=1048576/\∀y,y∈x3->y.length<=1048576) (h4:x4.length<=1048576) (h12:x12.length<=1048576) (h14:x14.length<=1048576) :
  lh (x0,x1,x2,x3,x4,x5,x6,x7,x8,x9,x10,x11,x12,x13,x14)=some ((x0,x1,x2,x3,x4,x5,x6,x7,x8,x9,x10,x11,x12,x13,x14),()):=by
 have hm:maxLen=9223372036854775807:=by decide
 show GZ BIG _=_;rw [ahj];dsimp only;have ho:rJ (x10,x11,x12,x13)=some ((x10,x11,x12,x13),()):=by
  show rH BIG _=_;rw [Ud,ah (by simp;omega)];rfl
 rw [ah (by simp;omega),af,ah (by simp;omega),af,ah (by simp;omega),af,ah (by simp;omega),af];rw [gT x3 (by omega) (fun i (s:List (List Int))=>s.length=i) (fun s y=>s++[y]) id rfl (fun i s y _ h=>by simp only [bY,a_,List.length_nil];omega) (fun self s i y hy hs => ?_) (fun self s _=>by simp)]
 ·rw [aa,ho,aa];have hf:∀(L s:List (List Int)),L.foldl (fun s y=>s++[y]) s=s++L:=by
   intro L;induction L with
   | nil=>intro s;simp
   | cons y L ih=>intro s;rw [List.foldl_cons,ih];simp
  rw [hf];simp
 ·have hi:=(aT hy).1;have hy3:=h3.2 y (List.mem_of_getElem? hy);simp only [show ((i:Int)<(x3.length:Int)) from by omega,decide_true,af];rw [aD hi,hy,aa,ah (by simp;omega),af,ah (by simp only [a_,List.length_nil];omega),af,bE (by omega),List.nil_append]
def wV (x0:Int) (x1:List Int) (x2:List Ed) (x3:List (List Int)) (x4:List Int) (x14:List Sd) (i op a b v:Int):JE:=(x0,x1,x2,x3,x4,0,0,0,0,0,0,0,[],0,x14++[(i,i,op,a,b,v)],1)
def aic (x0:Int) (x1:List Int) (x2:List Ed) (x3:List (List Int)) (x4:List Int) (x14:List Sd) (i op a b sh o:Int) (es:List Ed) (v:Int):JE:=(x0,x1,x2,x3,x4,i,op,a,b,sh,x4.getD (sh-1).toNat 0+1,o,es,v,x14,2)
def tkE (x0:Int) (x1:List Int) (x2:List Ed) (x3:List (List Int)) (x4:List Int) (x14:List Sd) (i op a b:Int):JE:=
 if x1.getD (ek a b).1.toNat 0=x1.getD (ek a b).2.toNat 0 then aic x0 x1 x2 x3 x4 x14 i op a b (x1.getD (ek a b).1.toNat 0) (if op=2 then 2 else 1) [ek a b] 0
 else if (decide (ek a b∈x2) == decide (op=1))=true then wV x0 x1 x2 x3 x4 x14 i op a b 2
 else wV x0 x1 (if ek a b∈x2 then del x2 (ek a b) else ins x2 (ek a b)) x3 x4 x14 i op a b 1
def tkM (x0:Int) (x1:List Int) (x2:List Ed) (x3:List (List Int)) (x4:List Int) (x14:List Sd) (i op a b:Int):JE:=
 if sO x0 x3.length op a b=false then wV x0 x1 x2 x3 x4 x14 i op a b 3
 else if op=3 then wV x0 x1 x2 x3 x4 x14 i op a b (if (JD x0 x3 x2).1.getD a.toNat 0=(JD x0 x3 x2).1.getD b.toNat 0 then 1 else 2)
 else if op=4 then (if x1.getD a.toNat 0=b then wV x0 x1 x2 x3 x4 x14 i op a b 2 else aic x0 x1 x2 x3 x4 x14 i op a b (x1.getD a.toNat 0) 3 [] a)
 else tkE x0 x1 x2 x3 x4 x14 i op a b
structure HdF (x0:Int) (x1:List Int) (x2:List Ed) (x3:List (List Int)) (x4:List Int) (x14:List Sd):Prop where
 n:1<=x0/\x0<=12
 k:1<=x3.length/\x3.length<=3
 nums:x4.length=x3.length
 own:(x1.length:Int)=x0
 cuts:iT x0 x2=true
 said:x14.length<=80
 o1:∀i,i<x1.length->1<=x1.getD i 0/\x1.getD i 0<=x3.length
 o3:∀i,i<x3.length->mX x0 (x3.getD i [])=true/\0<=x4.getD i 0/\x4.getD i 0<=99991
theorem aqz {x0:Int} {x1:List Int} {x2:List Ed} {x3:List (List Int)} {x4:List Int} {x14:List Sd} {t:Bool} (h:sP x0 x1 x2 x3 x4 x14 t=true):HdF x0 x1 x2 x3 x4 x14/\t=true:=by
 unfold sP at h;have h':=of_decide_eq_true h;obtain ⟨⟨a1,a2,a3⟩,a4,⟨a5,a6⟩,a7,a8,⟨a9,a10⟩,a11⟩:=h';rw [aQ] at a1 a2;refine ⟨⟨a1,by omega,a3,a5,a6,a10,fun i hi => ?_,fun i hi => ?_⟩,a11⟩
 ·have:=a7 i hi;unfold p1 at this;rw [aQ] at this;exact this
 ·have:=a4 i hi;unfold p3 at this;rw [aP,aQ] at this;exact this
theorem arf {n:Int} {l:List Int} (h:mX n l=true):pL n l=true:=by
 unfold mX at h;split at h;case isFalse=>cases h
 case isTrue hn=>
 split at h;case isFalse=>cases h
 case isTrue hp=>
 unfold pL;rw [ah hn,Bool.true_and];unfold vP;rw [List.all_eq_true];intro p hpm;obtain ⟨i,hi,rfl⟩:=List.getElem_of_mem hpm;obtain ⟨h1,h2⟩:=M7 (aO hi);rw [List.length_zipIdx] at hi;have h3:=hp i hi;unfold UX at h3;rw [h1] at h3;simp only [aP] at h3;rw [h2];exact h3.1
theorem HdF.wl {x0:Int} {x1:List Int} {x2:List Ed} {x3:List (List Int)} {x4:List Int} {x14:List Sd} (h:HdF x0 x1 x2 x3 x4 x14):wlB x0 x3 x2=true:=by
 unfold wlB;rw [aQ.2 h.n,ah h.k.2,Bool.true_and,Bool.true_and,aP,List.all_eq_true,List.all_eq_true];refine ⟨fun l hl => ?_,(iO h.cuts).1⟩;obtain ⟨i,hi,rfl⟩:=List.getElem_of_mem hl;have:=(h.o3 i hi).1;rw [gD (aO hi)] at this;exact arf this
theorem HdF.wl_len {x0:Int} {x1:List Int} {x2:List Ed} {x3:List (List Int)} {x4:List Int} {x14:List Sd} (h:HdF x0 x1 x2 x3 x4 x14):((JD x0 x3 x2).1.length:Int)=x0:=by
 unfold JD;rw [if_pos h.wl];have:=h.n;simp only [bZ];omega
section
variable {x0:Int} {x1:List Int} {x2:List Ed} {x3:List (List Int)} {x4:List Int} {x14:List Sd}
theorem vI (x5 x6 x7 x8 x9 x10 x11:Int) (x12:List Ed) (x13:Int) (i op a b v:Int) (h:x14.length<=1048576):jZ ((x0,x1,x2,x3,x4,x5,x6,x7,x8,x9,x10,x11,x12,x13,x14),(i,op,a,b),v)=some (1,(x0,x1,x2,x3,x4,x5,x6,x7,x8,x9,x10,x11,x12,x13,x14++[(i,i,op,a,b,v)])):=by
 show Dy BIG _=_;rw [adK];dsimp only;rw [ah (by simp only [a_,List.length_nil];omega),af]
theorem jg (x5 x6 x7 x8 x9 x10 x11:Int) (x12:List Ed) (x13:Int) (i op a b v:Int) (h:x14.length<=1048576):kW ((x0,x1,x2,x3,x4,x5,x6,x7,x8,x9,x10,x11,x12,x13,x14),(i,op,a,b),v)=some ((),(x0,x1,x2,x3,x4,0,0,0,0,0,0,0,[],0,x14++[(i,i,op,a,b,v)])):=by
 show Lp BIG _=_;rw [aj8];dsimp only;rw [ah (by simp only [a_,List.length_nil];omega),af]
theorem HdF.num (h:HdF x0 x1 x2 x3 x4 x14) {sh:Int} (h1:1<=sh) (h2:sh<=x3.length):IntKind.wrap .i64 (sh-1)=sh-1/\0<=sh-1/\sh-1<x4.length/\x4[(sh-1).toNat]?=some (x4.getD (sh-1).toNat 0)/\IntKind.wrap .i64 (x4.getD (sh-1).toNat 0+1)=x4.getD (sh-1).toNat 0+1:=by
 have hk:=h.k;have hn:=h.nums;have h3:=h.o3 (sh-1).toNat (by omega);exact ⟨wr (by omega) (by omega),by omega,by omega,getD_at (by omega),wr (by omega) (by omega)⟩
theorem U4 (h:HdF x0 x1 x2 x3 x4 x14) (x5 x6 x7 x8 x9 x10 x11:Int) (x12:List Ed) (x13:Int) (i op a b sh q o:Int) (es:List Ed) (v:Int) (h1:1<=sh) (h2:sh<=x3.length):xL ((x0,x1,x2,x3,x4,x5,x6,x7,x8,x9,x10,x11,x12,x13,x14),(i,op,a,b),sh,(q,o,es,v))=some (2,(x0,x1,x2,x3,x4,i,op,a,b,sh,x4.getD (sh-1).toNat 0+1,o,es,v,x14)):=by
 obtain ⟨g1,g2,g3,g4,g5⟩:=h.num h1 h2;show Ha BIG _=_;rw [aho];dsimp only;rw [g1,bG g2 g3,g4,aa,g5]
theorem HdF.at (h:HdF x0 x1 x2 x3 x4 x14) {v:Int} (h1:0<=v) (h2:v<=x0-1):v<x1.length/\x1[v.toNat]?=some (x1.getD v.toNat 0)/\1<=x1.getD v.toNat 0/\x1.getD v.toNat 0<=x3.length:=by
 have ho:=h.own;have:=h.o1 v.toNat (by omega);exact ⟨by omega,getD_at (by omega),this.1,this.2⟩
theorem aqA {a b n:Int} (ha:0<=a/\a<=n) (hb:0<=b/\b<=n):(0<=(ek a b).1/\(ek a b).1<=n)/\(0<=(ek a b).2/\(ek a b).2<=n):=by
 unfold ek;split<;>exact ⟨by simpa,by simpa⟩
def frt:JE->Int × Hd:=fun h=>(h.2.2.2.2.2.2.2.2.2.2.2.2.2.2.2,(h.1,h.2.1,h.2.2.1,h.2.2.2.1,h.2.2.2.2.1,h.2.2.2.2.2.1,h.2.2.2.2.2.2.1,h.2.2.2.2.2.2.2.1,h.2.2.2.2.2.2.2.2.1,h.2.2.2.2.2.2.2.2.2.1,h.2.2.2.2.2.2.2.2.2.2.1,h.2.2.2.2.2.2.2.2.2.2.2.1,h.2.2.2.2.2.2.2.2.2.2.2.2.1,h.2.2.2.2.2.2.2.2.2.2.2.2.2.1,h.2.2.2.2.2.2.2.2.2.2.2.2.2.2.1))
theorem acl (h:HdF x0 x1 x2 x3 x4 x14) (i op a b:Int) (hop:op=1\/op=2) (ha:0<=a/\a<=x0-1) (hb:0<=b/\b<=x0-1):zy ((x0,x1,x2,x3,x4,0,0,0,0,0,0,0,[],0,x14),(i,op,a,b))=some (frt (tkE x0 x1 x2 x3 x4 x14 i op a b)):=by
 have hm:maxLen=9223372036854775807:=by decide
 have hcl:=jk h.cuts;have hsd:=h.said;obtain ⟨e1,e2⟩:=aqA ha hb;obtain ⟨g1,g2,g3,g4⟩:=h.at e1.1 e1.2;obtain ⟨k1,k2,k3,k4⟩:=h.at e2.1 e2.2;show zx BIG _=_;rw [abr];dsimp only;rw [aib,aa];dsimp only;unfold tkE;generalize ek a b=e at *
 have hx:(bif decide (op=(2:Int)) then some (2:Int) else some (1:Int))=some (if op=2 then 2 else 1):=by
  rcases hop with rfl|rfl<;>rfl
 rw [hx,aa];simp only [bG e1.1 g1,g2,aa,bG e2.1 k1,k2];generalize hp:x1.getD e.1.toNat 0=p at *
 generalize hq:x1.getD e.2.toNat 0=q at *
 by_cases hpq:p=q
 ·subst hpq;simp only [decide_true,af,if_true];rw [U4 h _ _ _ _ _ _ _ _ _ _ _ _ _ _ _ _ _ _ g3 g4];rfl
 ·simp only [au hpq,ak,if_neg hpq];rw [qm _ _ (by omega),aa];cases hc:(decide (e∈x2) == decide (op=1)) with
  | true=>
   simp only [af,if_true];rw [jg _ _ _ _ _ _ _ _ _ _ _ _ _ _ (by omega)];rfl
  | false=>
   simp only [ak,Bool.false_eq_true,if_false];by_cases hin:e∈x2
   ·simp only [ah hin,af,if_pos hin];rw [JC _ _ (by omega),aa,aa,jg _ _ _ _ _ _ _ _ _ _ _ _ _ _ (by omega)];rfl
   ·simp only [au hin,ak,if_neg hin];rw [ww _ _ (by omega),aa,aa,jg _ _ _ _ _ _ _ _ _ _ _ _ _ _ (by omega)];rfl
theorem aid {n:Int} {k:Nat} {op a b:Int} (h:sO n k op a b=true):(1<=op/\op<=4)/\(0<=a/\a<=n-1)/\(op=4->1<=b/\b<=k)/\(op≠4->0<=b/\b<=n-1):=by
 unfold sO at h;simp only [aP,aQ] at h;refine ⟨h.1,h.2.1,fun h4 => ?_,fun h4 => ?_⟩
 ·have:=h.2.2;rw [ah h4,af,aQ] at this;exact this
 ·have:=h.2.2;rw [au h4,ak,aP,aQ] at this;exact this.1
end
noncomputable def M9 (x0:Int) (x1:List Int) (x2:List Ed) (x3:List (List Int)) (x4:List Int) (x5 x6 x7 x8 x9 x10 x11:Int) (x12:List Ed) (x13:Int) (x14:List Sd) (i:Int):Bool:=
 sP x0 x1 x2 x3 x4 x14 (om x0 x3.length x4 x14 x5 x6 x7 x8 x9 (x10,x11,x12,x13))&&(aV i 1 100000&&(!decide (0<=sA x14 i)&&(decide (x9=0) && !decide ((80:Int)<=(x14.length:Int)))))
noncomputable def tkR (x0:Int) (x1:List Int) (x2:List Ed) (x3:List (List Int)) (x4:List Int) (x5 x6 x7 x8 x9 x10 x11:Int) (x12:List Ed) (x13:Int) (x14:List Sd) (i op a b:Int):JE:=
 if M9 x0 x1 x2 x3 x4 x5 x6 x7 x8 x9 x10 x11 x12 x13 x14 i=true then tkM x0 x1 x2 x3 x4 x14 i op a b else (x0,x1,x2,x3,x4,x5,x6,x7,x8,x9,x10,x11,x12,x13,x14,0)
theorem WL {x0:Int} {x1:List Int} {x2:List Ed} {x3:List (List Int)} {x4:List Int} {x5 x6 x7 x8 x9 x10 x11:Int} {x12:List Ed} {x13:Int} {x14:List Sd} {i:Int} (h:M9 x0 x1 x2 x3 x4 x5 x6 x7 x8 x9 x10 x11 x12 x13 x14 i=true) :
  HdF x0 x1 x2 x3 x4 x14/\x5=0/\x6=0/\x7=0/\x8=0/\x9=0/\x10=0/\x11=0/\x12=[]/\x13=0:=by
 unfold M9 at h;simp only [aP,decide_eq_true_eq] at h;obtain ⟨h1,h2,h3,h4,h5⟩:=h;obtain ⟨hF,ht⟩:=aqz h1;subst h4;unfold om at ht;rw [Bool.or_eq_true] at ht;rcases ht with ht|ht
 ·unfold tB blQ blO at ht;simp only [aP,decide_eq_true_eq] at ht;obtain ⟨⟨b1,b2,b3,b4⟩,_,c1,c2,c3,c4⟩:=ht;exact ⟨hF,b1,b2,b3,b4,rfl,c1,c2,List.length_eq_zero_iff.1 c3,c4⟩
 ·simp only [aP,aQ] at ht;omega
section
variable (x0:Int) (x1:List Int) (x2:List Ed) (x3:List (List Int)) (x4:List Int) (x5 x6 x7 x8 x9 x10 x11:Int) (x12:List Ed) (x13:Int) (x14:List Sd) (i op a b:Int) (h1:x1.length<=1048576) (h2:x2.length<=1048576) (h3:x3.length<=1048576/\∀y,y∈x3->y.length<=1048576) (h4:x4.length<=1048576) (h12:x12.length<=1048576) (h14:x14.length<=1048576)
include h1 h2 h3 h4 h12 h14
theorem aoM:EW ((x0,x1,x2,x3,x4,x5,x6,x7,x8,x9,x10,x11,x12,x13,x14),(i,op,a,b))=some (tkR x0 x1 x2 x3 x4 x5 x6 x7 x8 x9 x10 x11 x12 x13 x14 i op a b,()):=by
 have hm:maxLen=9223372036854775807:=by decide
 show We BIG _=_;rw [aov,xX x0 x1 x2 x3 x4 x5 x6 x7 x8 x9 x10 x11 x12 x13 x14 h1 h2 h3 h4 h12 h14,aa];dsimp only;rw [YM x0 x1 x2 x3 x4 x5 x6 x7 x8 x9 x10 x11 x12 x13 x14 h1 h2 h3 h12 h14,bX,I8 x0 x1 x2 x3 x4 x5 x6 x7 x8 x9 x10 x11 x12 x13 x14 i h14,WF];have hx:(Option.bind (some (sP x0 x1 x2 x3 x4 x14 (om x0 x3.length x4 x14 x5 x6 x7 x8 x9 (x10,x11,x12,x13)),())) fun r1:Bool × Unit=>
   bif !r1.1 then some true else Option.bind (some (aV i 1 100000,())) fun r2:Bool × Unit=>bif !r2.1 then some true else Option.bind (some (sA x14 i,())) fun r3:Int × Unit=>bif decide ((0:Int)<=r3.1) then some true else Option.bind (some (!decide (x9=0),())) fun r4:Bool × Unit=>bif r4.1 then some true else some (decide ((80:Int)<=(x14.length:Int))))=some (!M9 x0 x1 x2 x3 x4 x5 x6 x7 x8 x9 x10 x11 x12 x13 x14 i):=by
  unfold M9;simp only [aa];cases sP x0 x1 x2 x3 x4 x14 (om x0 x3.length x4 x14 x5 x6 x7 x8 x9 (x10,x11,x12,x13))<;>cases aV i 1 100000<;>cases decide ((0:Int)<=sA x14 i)<;>cases decide (x9=0)<;>cases decide ((80:Int)<=(x14.length:Int))<;>rfl
 refine (congrArg (fun o=>Option.bind o _) hx).trans ?_;unfold tkR;cases hok:M9 x0 x1 x2 x3 x4 x5 x6 x7 x8 x9 x10 x11 x12 x13 x14 i with
 | false=>rfl
 | true=>
  obtain ⟨hF,rfl,rfl,rfl,rfl,rfl,rfl,rfl,rfl,rfl⟩:=WL hok;have hcl:=jk hF.cuts;have hsd:=hF.said;have hk:=hF.k;simp only [bu,aa,ak,if_true];rw [P8 _ _ _ _ _ _ _ _ _ _ _ _ _ _ _ _ _ _ _ hF.n,aa];unfold tkM;cases hr:sO x0 x3.length op a b with
  | false=>
   simp only [fw,af,if_true];rw [jg _ _ _ _ _ _ _ _ _ _ _ _ _ _ (by omega)];rfl
  | true=>
   obtain ⟨r1,r2,r3,r4⟩:=aid hr;simp only [bu,ak,Bool.true_eq_false,if_false];by_cases h3':op=3
   ·subst h3';have hb:=r4 (by omega);have hl:=hF.wl_len;simp only [decide_true,af,if_true];have ha':a.toNat<(JD x0 x3 x2).1.length:=by omega
    have hb':b.toNat<(JD x0 x3 x2).1.length:=by omega
    rw [WK _ _ _ (by omega) (by omega),if_pos (by omega),aa];dsimp only;rw [bG r2.1 (by omega),getD_at ha',aa,bG hb.1 (by omega),getD_at hb',aa];by_cases hab:(JD x0 x3 x2).1.getD a.toNat 0=(JD x0 x3 x2).1.getD b.toNat 0
    ·rw [ah hab,if_pos hab,af,aa,jg _ _ _ _ _ _ _ _ _ _ _ _ _ _ (by omega)];rfl
    ·rw [au hab,if_neg hab,ak,aa,jg _ _ _ _ _ _ _ _ _ _ _ _ _ _ (by omega)];rfl
   ·simp only [au h3',ak,if_neg h3'];by_cases h4':op=4
    ·subst h4';obtain ⟨g1,g2,g3,g4⟩:=hF.at r2.1 r2.2;simp only [decide_true,af,if_true,bG r2.1 g1,g2,aa];by_cases hab:x1.getD a.toNat 0=b
     ·rw [ah hab,if_pos hab,af,jg _ _ _ _ _ _ _ _ _ _ _ _ _ _ (by omega)];rfl
     ·rw [au hab,if_neg hab,ak,U4 hF _ _ _ _ _ _ _ _ _ _ _ _ _ _ _ _ _ _ g3 g4];rfl
    ·simp only [au h4',ak,if_neg h4'];rw [acl hF i op a b (by omega) r2 (r4 h4')];rfl
end
theorem U5 (l:List Ed) (e:Ed):(del l e).length<=l.length:=List.length_filter_le _ _
theorem acm {α:Type} (p q:α->Bool) (h:∀x,p x=true->q x=true->False):∀l:List α,(l.filter p).length+(l.filter q).length<=l.length
 | []=>by simp
 | x::l=>by
  have ih:=acm p q h l;rw [List.filter_cons,List.filter_cons,a_];cases hp:p x<;>cases hq:q x<;>simp only [Bool.false_eq_true,if_false,if_true,a_]<;>first
   | omega
   | exact absurd hq (fun hq=>h x hp hq)
theorem U6 (l:List Ed) (e:Ed):(ins l e).length<=l.length+1:=by
 unfold ins;have:=acm (fun y=>lsB y e) (fun y=>lsB e y) (fun x h1 h2=>by
  simp only [lsB,Bool.or_eq_true,aP,decide_eq_true_eq] at h1 h2
  omega) l
 simp only [bY,a_,List.length_nil];omega
theorem aoN (x0:Int) (x1:List Int) (x2:List Ed) (x3:List (List Int)) (x4:List Int) (x14:List Sd) (i op a b:Int) :
  ∃(c:List Ed) (t1 t2 t3 t4 t5 t6 t7:Int) (t8:List Ed) (t9:Int) (s:List Sd) (m:Int),tkM x0 x1 x2 x3 x4 x14 i op a b=(x0,x1,c,x3,x4,t1,t2,t3,t4,t5,t6,t7,t8,t9,s,m)/\c.length<=x2.length+1/\t8.length<=1/\s.length<=x14.length+1:=by
 have say:∀(c:List Ed) (v:Int),c.length<=x2.length+1->∃(c':List Ed) (t1 t2 t3 t4 t5 t6 t7:Int) (t8:List Ed) (t9:Int) (s:List Sd) (m:Int),wV x0 x1 c x3 x4 x14 i op a b v=(x0,x1,c',x3,x4,t1,t2,t3,t4,t5,t6,t7,t8,t9,s,m)/\c'.length<=x2.length+1/\t8.length<=1/\s.length<=x14.length+1:=fun c v hc=>⟨_,_,_,_,_,_,_,_,_,_,_,_,rfl,hc,by simp,by simp⟩
 have ord:∀(sh o:Int) (es:List Ed) (v:Int),es.length<=1->∃(c':List Ed) (t1 t2 t3 t4 t5 t6 t7:Int) (t8:List Ed) (t9:Int) (s:List Sd) (m:Int),aic x0 x1 x2 x3 x4 x14 i op a b sh o es v=(x0,x1,c',x3,x4,t1,t2,t3,t4,t5,t6,t7,t8,t9,s,m)/\c'.length<=x2.length+1/\t8.length<=1/\s.length<=x14.length+1:=fun sh o es v hc=>⟨_,_,_,_,_,_,_,_,_,_,_,_,rfl,by omega,hc,by omega⟩
 unfold tkM tkE;split
 ·exact say _ _ (by omega)
 ·split
  ·exact say _ _ (by omega)
  ·split
   ·split
    ·exact say _ _ (by omega)
    ·exact ord _ _ _ _ (by simp)
   ·split
    ·exact ord _ _ _ _ (by simp)
    ·split
     ·exact say _ _ (by omega)
     ·refine say _ _ ?_;split
      ·have:=U5 x2 (ek a b);omega
      ·exact U6 _ _
theorem aoO {n k i:Nat} (h:i<n):(M5 n k)[i]?=some (1+((i % k:Nat):Int)):=by
 unfold M5;rw [List.getElem?_map,List.getElem?_range h];rfl
theorem amC (n k:Nat):(M5 n k).length=n:=by simp [M5]
theorem cK {X B C:Type} {F:(X->Option B)->X->Option B} (I:X->Prop) (μ:X->Nat) (Q:X->B->Prop) (P:Option C->Prop) {x:X} {k:B->Option C} (hx:μ x<BIG) (hi:I x)
  (h:∀self x,I x->(∀y,I y->μ y<μ x->∃b,self y=some b/\Q y b)->∃b,F self x=some b/\Q x b) (hk:∀b,Q x b->P (k b)):P (Option.bind (aJ BIG F x) k):=by
 obtain ⟨b,h1,h2⟩:=pM (F:=F) I μ Q h hx hi;rw [h1];exact hk b h2
theorem ad8 (a b:List Int) (ha:a.length<=maxLen):DV (a,b)=some (decide (a=b),()):=by
 rw [<-nD a b ha];show DU BIG _=kM BIG _;rw [adQ,uB];all_goals rfl
theorem ad9 (a b:List Int) (ha:a.length<=maxLen):Eb (a,b)=some (decide (a=b),()):=by
 rw [<-nD a b ha];show Ea BIG _=kM BIG _;rw [adZ,uB];all_goals rfl
theorem akY {l:List Int} {v:Nat} {x:Int} (h:l[v]?=some x):(x,(v:Int))∈Bt l:=by
 unfold Bt;refine List.mem_map.2 ⟨(x,v),?_,rfl⟩;have:l.zipIdx[v]?=some (x,v):=by rw [List.getElem?_zipIdx,h];simp
 exact List.mem_of_getElem? this
theorem akZ {l:List Int} {e:Ed} (h:e∈Bt l):∃v:Nat,l[v]?=some e.1/\e.2=(v:Int):=by
 obtain ⟨p,hp,rfl⟩:=List.mem_map.1 h;obtain ⟨i,hi⟩:=List.mem_iff_getElem?.1 hp;obtain ⟨h1,h2⟩:=M7 hi;exact ⟨i,h1,by simp [h2]⟩
theorem aoP {n:Nat} {A:List Ed} (h:jX n A):pL (n:Int) (labs n A)=true:=by
 have hL:=iM h;unfold pL;rw [ah (by rw [bZ]),Bool.true_and];unfold vP;rw [List.all_eq_true];intro p hp;obtain ⟨i,hi⟩:=List.mem_iff_getElem?.1 hp;obtain ⟨h1,h2⟩:=M7 hi;have:=hL.le h1;have:=hL.lt h1;rw [aQ,h2];omega
theorem Bu {es:List Ed} (h:ol es):es.Nodup:=by
 refine List.Pairwise.imp (fun {a b} hab => ?_) h;rintro rfl;rw [UY] at hab;cases hab
theorem acn:∀{A:List Ed} {s s':List Ed},fM xm s A=some s'->s'=A.foldl ins s
 | [],s,s',h=>by simp only [fM,aK] at h;exact h.symm
 | e::A,s,s',h=>by
  rw [fM] at h;cases he:xm s e with
  | none=>rw [he] at h;cases h
  | some s1=>
   rw [he] at h;obtain ⟨_,rfl⟩:=RN he;exact acn (A:=A) (s:=ins s e) h
def lW (cuts es:List Ed):List Ed:=es.foldl ins cuts
def jy (own:List Int) (cuts es:List Ed) (a b:Int):List Ed:=(lW cuts es).filter (Ao (own.set a.toNat b) b)
def I_ (x0:Int) (x1:List Int) (x2:List Ed) (x3:List (List Int)) (x4:List Int) (x14:List Sd) (i op a b:Int) (es:List Ed):JE:=
 if ∀e,e∈es->e∉x2 then
  (if (jy x1 x2 es a b).length=0 then wV x0 (x1.set a.toNat b) (lW x2 es) x3 x4 x14 i op a b 1
   else aic x0 (x1.set a.toNat b) ((jy x1 x2 es a b).foldl del (lW x2 es)) x3 x4 x14 i op a b b 4 (jy x1 x2 es a b) 0)
 else wV x0 x1 x2 x3 x4 x14 i op a b 3
theorem RO (cuts:List Ed):∀es:List Ed,(lW cuts es).length<=cuts.length+es.length:=by
 unfold lW;intro es;induction es generalizing cuts with
 | nil=>simp
 | cons e es ih=>
  rw [List.foldl_cons,a_];have:=ih (ins cuts e);have:=U6 cuts e;omega
theorem Zc (l:List Ed):∀cuts:List Ed,(l.foldl del cuts).length<=cuts.length:=by
 induction l with
 | nil=>intro c;simp
 | cons e l ih=>
  intro c;rw [List.foldl_cons];have:=ih (del c e);have:=U5 c e;omega
theorem arh (x0:Int) (x1:List Int) (x2:List Ed) (x3:List (List Int)) (x4:List Int) (x14:List Sd) (x5 x6 x7 x8 x9 x10 x11:Int) (x12:List Ed) (x13:Int) (i op a b sh q o:Int) (es:List Ed) (v:Int) (hn:x4.length<=1000000) (h1:1<=sh) (h2:sh<=x4.length) (h3:0<=x4.getD (sh-1).toNat 0/\x4.getD (sh-1).toNat 0<=1000000):wP ((x0,x1,x2,x3,x4,x5,x6,x7,x8,x9,x10,x11,x12,x13,x14),(i,op,a,b),sh,(q,o,es,v))=some (2,(x0,x1,x2,x3,x4,i,op,a,b,sh,x4.getD (sh-1).toNat 0+1,o,es,v,x14)):=by
 have hi:(sh-1).toNat<x4.length:=by omega
 show wO BIG _=_;rw [Y6];dsimp only;rw [wr (n:=sh-1) (by omega) (by omega),bG (by omega) (by omega),getD_at hi,aa,wr (by omega) (by omega)]
theorem ari (x0:Int) (x1:List Int) (x2:List Ed) (x3:List (List Int)) (x4:List Int) (x14:List Sd) (x5 x6 x7 x8 x9 x10 x11:Int) (x12:List Ed) (x13:Int) (i op a b sh q o:Int) (es:List Ed) (v:Int) (hn:x4.length<=1000000) (h1:1<=sh) (h2:sh<=x4.length) (h3:0<=x4.getD (sh-1).toNat 0/\x4.getD (sh-1).toNat 0<=1000000):zt ((x0,x1,x2,x3,x4,x5,x6,x7,x8,x9,x10,x11,x12,x13,x14),(i,op,a,b),sh,(q,o,es,v))=some (2,(x0,x1,x2,x3,x4,i,op,a,b,sh,x4.getD (sh-1).toNat 0+1,o,es,v,x14)):=by
 have hi:(sh-1).toNat<x4.length:=by omega
 show zq BIG _=_;rw [abn];dsimp only;rw [wr (n:=sh-1) (by omega) (by omega),bG (by omega) (by omega),getD_at hi,aa,wr (by omega) (by omega)]
theorem aqB (x0:Int) (x1:List Int) (x2:List Ed) (x3:List (List Int)) (x4:List Int) (x14:List Sd) (x5 x6 x7 x8 x9 x10 x11:Int) (x12:List Ed) (x13:Int) (i op a b v:Int) (h:x14.length<=1048576):u_ ((x0,x1,x2,x3,x4,x5,x6,x7,x8,x9,x10,x11,x12,x13,x14),(i,op,a,b),v)=some ((),(x0,x1,x2,x3,x4,0,0,0,0,0,0,0,[],0,x14++[(i,i,op,a,b,v)])):=by
 show CJ BIG _=_;rw [adq];dsimp only;rw [ah (by simp only [a_,List.length_nil];omega),af]
section
variable (x0:Int) (x1:List Int) (x2:List Ed) (x3:List (List Int)) (x4:List Int) (x14:List Sd) (i op a b:Int) (es:List Ed)
theorem RP (h0:1<=x0/\x0<=12) (h1:(x1.length:Int)=x0) (h2:ol x2/\x2.length<=66) (h3:x3.length<=3) (h4:x4.length=x3.length) (h14:x14.length<=80) (he:ol es/\es.length<=66) (ha:0<=a/\a<=x0-1) (hb:1<=b/\b<=x3.length) (hn:∀j,j<x4.length->0<=x4.getD j 0/\x4.getD j 0<=1000000) :
  pG ((x0,x1,x2,x3,x4,0,0,0,0,0,0,0,[],0,x14),(i,op,a,b),es)=some (frt (I_ x0 x1 x2 x3 x4 x14 i op a b es)):=by
 have hm:maxLen=9223372036854775807:=by decide
 show pF BIG _=_;rw [Rb];dsimp only;rw [I4 es (by omega) (fun _ (s:Hd)=>s=(x0,x1,x2,x3,x4,0,0,0,0,0,0,0,[],0,x14)) (fun s e=>if (!decide (e∈x2))=true then some s else none) ((1,(x0,x1,x2,x3,x4,0,0,0,0,0,0,0,[],0,x14++[(i,i,op,a,b,3)])):Int × Hd) rfl (fun j s y s' hy hs hst=>by
  split at hst
  ·cases hst;exact hs
  ·cases hst) (fun self s j y hy hs => ?_) (fun self s hs=>by simp)]
 ·rw [M6];have hc:(es.all fun e=>!decide (e∈x2))=decide (∀e,e∈es->e∉x2):=by
   rw [Bool.eq_iff_iff,List.all_eq_true,decide_eq_true_eq];exact ⟨fun h e he=>by simpa using h e he,fun h e he=>by simpa using h e he⟩
  rw [hc];unfold I_;by_cases hno:∀e,e∈es->e∉x2
  ·rw [ah hno,if_pos rfl,if_pos hno];have hfold:∀(l:List Ed) (s:Hd),l.foldl (fun s _=>s) s=s:=by
    intro l;induction l with
    | nil=>intro s;rfl
    | cons e l ih=>intro s;rw [List.foldl_cons,ih]
   rw [hfold,aa];simp only;rw [wr (n:=x0-1) (by omega) (by omega),jw,jw];rw [show aV a 0 (x0-1)=true from aQ.2 ha,show aV b 1 (x3.length:Int)=true from aQ.2 hb];simp only [aa,bu,ak];have hnd:=Bu he.1;rw [gT es (by omega) (fun j (s:Hd)=>s=(x0,x1,(es.take j).foldl ins x2,x3,x4,0,0,0,0,0,0,0,[],0,x14)/\ol s.2.2.1/\s.2.2.1.length<=66+j/\∀e,e∈es.drop j->e∉s.2.2.1) (fun s e=>(s.1,s.2.1,ins s.2.2.1 e,s.2.2.2)) id (by exact ⟨rfl,h2.1,by show x2.length<=66+0;omega,hno⟩) (fun j s y hy ⟨k1,k2,k3,k4⟩ => ?_) (fun self s j y hy ⟨k1,k2,k3,k4⟩ => ?_) (fun self s _=>by simp)]
   ·have hff:∀(l:List Ed) (c:List Ed),l.foldl (fun (s:Hd) e=>(s.1,s.2.1,ins s.2.2.1 e,s.2.2.2)) (x0,x1,c,x3,x4,0,0,0,0,0,0,0,[],0,x14)=(x0,x1,l.foldl ins c,x3,x4,0,0,0,0,0,0,0,[],0,x14):=by
     intro l;induction l with
     | nil=>intro c;rfl
     | cons e l ih=>intro c;rw [List.foldl_cons,List.foldl_cons,ih]
    have hai:a.toNat<x1.length:=by omega
    have hCl:=RO x2 es;have hIl:(jy x1 x2 es a b).length<=(lW x2 es).length:=List.length_filter_le _ _;rw [hff];simp only [id,aa];rw [bG ha.1 (by omega),aO hai,aa,akC _ _ _ (by rw [gX];omega) (by show (lW x2 es).length<=_;omega),aa];have e1:List.filter (Ao (x1.set a.toNat b) b) (es.foldl ins x2)=jy x1 x2 es a b:=rfl;have e2:es.foldl ins x2=lW x2 es:=rfl;simp only [e1];rw [e2];by_cases hI:(jy x1 x2 es a b).length=0
    ·rw [ah (by omega),af,if_pos hI,vI _ _ _ _ _ _ _ _ _ _ _ _ _ _ (by omega)];rfl
    ·rw [au (by omega),ak,if_neg hI];rw [gT (jy x1 x2 es a b) (by omega) (fun j (s:Hd)=>s.2.2.1.length<=132) (fun s e=>(s.1,s.2.1,del s.2.2.1 e,s.2.2.2)) id (by simp only;omega) (fun j s y hy hs=>by
      have:=U5 s.2.2.1 y
      simp only;omega) (fun self s j y hy hs => ?_) (fun self s _=>by simp)]
     ·have hdd:∀(l:List Ed) (o:List Int) (c:List Ed),l.foldl (fun (s:Hd) e=>(s.1,s.2.1,del s.2.2.1 e,s.2.2.2)) (x0,o,c,x3,x4,0,0,0,0,0,0,0,[],0,x14)=(x0,o,l.foldl del c,x3,x4,0,0,0,0,0,0,0,[],0,x14):=by
       intro l o;induction l with
       | nil=>intro c;rfl
       | cons e l ih=>intro c;rw [List.foldl_cons,List.foldl_cons,ih]
      rw [hdd];simp only [id,aa];rw [arh _ _ _ _ _ _ _ _ _ _ _ _ _ _ _ _ _ _ _ _ _ _ _ _ (by omega) hb.1 (by omega) (hn _ (by omega))];rfl
     ·have hj:=(aT hy).1;simp only [show ((j:Int)<((jy x1 x2 es a b).length:Int)) from by omega,decide_true,af];rw [aD hj,hy,aa,WH _ _ (by omega),aa,bE (by omega)]
   ·have hj:=(aT hy).1;have ht:es.take (j+1)=es.take j++[y]:=by
     rw [List.take_succ_eq_append_getElem hj];rw [aO hj,aK] at hy;rw [hy]
    have hd:es.drop j=y::es.drop (j+1):=by
     rw [List.drop_eq_getElem_cons hj];rw [aO hj,aK] at hy;rw [hy]
    subst k1;refine ⟨?_,NV k2,?_,fun e hee hin => ?_⟩
    ·rw [ht,List.foldl_append];rfl
    ·have:=U6 ((es.take j).foldl ins x2) y;simp only at k3 ⊢;omega
    ·rcases iN.1 hin with rfl|hin
     ·have hnn:(es.drop j).Nodup:=hnd.sublist (List.drop_sublist _ _);rw [hd,List.nodup_cons] at hnn;exact hnn.1 hee
     ·exact k4 e (by rw [hd];exact List.mem_cons_of_mem _ hee) hin
   ·have hj:=(aT hy).1;simp only [show ((j:Int)<(es.length:Int)) from by omega,decide_true,af];have hmem:y∈es.drop j:=by
     rw [List.drop_eq_getElem_cons hj];rw [aO hj,aK] at hy;rw [hy];exact List.mem_cons_self ..
    rw [aD hj,hy,aa,P7 _ _ (by omega),afF k2 (k4 y hmem),aa,bE (by omega)]
  ·rw [au hno,if_neg (by simp),if_neg hno];rfl
 ·have hj:=(aT hy).1;simp only [show ((j:Int)<(es.length:Int)) from by omega,decide_true,af];subst hs;rw [aD hj,hy,aa,UZ _ _ (by simp only;omega),aa,bE (by omega)];simp only;by_cases hin:y∈x2
  ·rw [ah hin,af,vI _ _ _ _ _ _ _ _ _ _ _ _ _ _ (by omega)];simp
  ·rw [au hin,ak];simp
theorem ad_ (x5 x6 x7 x8 x9 x10 x11:Int) (x12:List Ed) (x13:Int) (h0:1<=x0/\x0<=12) (h1:(x1.length:Int)=x0) (h2:ol x2/\x2.length<=66) (h3:x3.length<=3) (h4:x4.length=x3.length) (h14:x14.length<=80) (he:ol es/\es.length<=66) (ha:0<=a/\a<=x0-1) (hb:1<=b/\b<=x3.length) (hn:∀j,j<x4.length->0<=x4.getD j 0/\x4.getD j 0<=1000000) :
  CP ((x0,x1,x2,x3,x4,x5,x6,x7,x8,x9,x10,x11,x12,x13,x14),(i,op,a,b),es)=some (frt (I_ x0 x1 x2 x3 x4 x14 i op a b es)):=by
 have hm:maxLen=9223372036854775807:=by decide
 show CO BIG _=_;rw [ads];dsimp only;rw [arb es (by omega) (mk:=fun (s:Hd × List Ed) (j:Int)=>((s.1,s.2,j):Hd × List Ed × Int)) (I:=fun j (s:Hd × List Ed)=>s.1=(x0,x1,x2,x3,x4,x5,x6,x7,x8,x9,x10,x11,x12,x13,x14)/\s.2.length<=66+j) (st:=fun s e=>(xm s.2 e).map fun c=>(s.1,c)) (R:=id) (b:=((1,(x0,x1,x2,x3,x4,0,0,0,0,0,0,0,[],0,x14++[(i,i,op,a,b,3)])):Int × Hd)) (s0:=((x0,x1,x2,x3,x4,x5,x6,x7,x8,x9,x10,x11,x12,x13,x14),x2)) ⟨rfl,by simp only;omega⟩ (fun j s s' y hy ⟨k1,k2⟩ hst => ?_) (fun self s j y hy ⟨k1,k2⟩ => ?_) (fun self s hs=>by simp)]
 ·have hfm:∀(l:List Ed) (h:Hd) (c:List Ed),fM (fun (s:Hd × List Ed) e=>(xm s.2 e).map fun c=>(s.1,c)) (h,c) l=(fM xm c l).map fun c=>(h,c):=by
   intro l h;induction l with
   | nil=>intro c;rfl
   | cons e l ih=>
    intro c;rw [fM,fM];simp only;cases xm c e with
    | none=>rfl
    | some c'=>simp only [Option.map_some,aa,ih]
  rw [hfm];unfold I_;by_cases hno:∀e,e∈es->e∉x2
  ·rw [if_pos hno];obtain ⟨s',hs'⟩:=anG (s:=x2) (Bu he.1) hno;have hse:=acn hs';rw [hs'];have hs2:s'=lW x2 es:=hse;subst hs2;have hai:a.toNat<x1.length:=by omega
   have hCl:=RO x2 es;have hIl:(jy x1 x2 es a b).length<=(lW x2 es).length:=List.length_filter_le _ _;simp only [Option.map_some,id,aa];rw [bG ha.1 (by omega),aO hai,aa,akD _ _ _ (by rw [gX];omega) (by omega),aa];have e1:List.filter (Ao (x1.set a.toNat b) b) (lW x2 es)=jy x1 x2 es a b:=rfl;simp only [e1];rw [gT (jy x1 x2 es a b) (by omega) (fun j (s:List Ed)=>s.length<=132) del id (by omega) (fun j s y hy hs=>by
    have:=U5 s y
    omega) (fun self s j y hy hs => ?_) (fun self s _=>by simp)]
   ·simp only [id,aa];by_cases hI:(jy x1 x2 es a b).length=0
    ·rw [ah (by omega),af,if_pos hI,List.length_eq_zero_iff.1 hI,aqB _ _ _ _ _ _ _ _ _ _ _ _ _ _ _ _ _ _ _ _ (by omega)];rfl
    ·rw [au (by omega),ak,if_neg hI,ari _ _ _ _ _ _ _ _ _ _ _ _ _ _ _ _ _ _ _ _ _ _ _ _ (by omega) hb.1 (by omega) (hn _ (by omega))];rfl
   ·have hj:=(aT hy).1;simp only [show ((j:Int)<((jy x1 x2 es a b).length:Int)) from by omega,decide_true,af];rw [aD hj,hy,aa,JC _ _ (by omega),aa,bE (by omega)]
  ·rw [if_neg hno];have hnone:fM xm x2 es=none:=by
    cases hf:fM xm x2 es with
    | none=>rfl
    | some s'=>exact absurd (afG hf).2.1 hno
   rw [hnone];rfl
 ·obtain ⟨h,c⟩:=s;simp only at k1 k2 hst;cases hc:xm c y with
  | none=>rw [hc] at hst;cases hst
  | some c'=>
   rw [hc] at hst;simp only [Option.map_some,aK] at hst;subst hst;obtain ⟨_,rfl⟩:=RN hc;have:=U6 c y;exact ⟨k1,by simp only;omega⟩
 ·obtain ⟨h,c⟩:=s;simp only at k1 k2;subst k1;have hj:=(aT hy).1;simp only [show ((j:Int)<(es.length:Int)) from by omega,decide_true,af];rw [aD hj,hy,aa,qm _ _ (by omega),aa,bE (by omega)];unfold xm;by_cases hin:y∈c
  ·rw [ah hin,af,aqB _ _ _ _ _ _ _ _ _ _ _ _ _ _ _ _ _ _ _ _ (by omega),if_pos hin];rfl
  ·rw [au hin,ak,if_neg hin,aD hj,hy,aa,ww _ _ (by omega),aa];rfl
end
noncomputable def pQ (x0:Int) (x1:List Int) (x2:List Ed) (x3:List (List Int)) (x4:List Int) (x5 x6 x7 x8 x9 x10 x11:Int) (x12:List Ed) (x13:Int) (x14:List Sd) (sh:Int) (y:An):Bool:=
 sP x0 x1 x2 x3 x4 x14 (om x0 x3.length x4 x14 x5 x6 x7 x8 x9 (x10,x11,x12,x13))&&(lu x0 y&&(!decide (x9=0)&&(decide (sh=x9)&&decide (y.1=x10))))
def JF (x0:Int) (x1:List Int) (x2:List Ed) (x3:List (List Int)) (x4:List Int) (x14:List Sd) (i op a b q:Int) (ok:Bool) (es:List Ed):JE:=
 if op=4 then (if q=3 then I_ x0 x1 x2 x3 x4 x14 i op a b es else wV x0 x1 x2 x3 x4 x14 i op a b 1)
 else wV x0 x1 x2 x3 x4 x14 i op a b (if ok then 1 else 2)
noncomputable def Bv (x0:Int) (x1:List Int) (x2:List Ed) (x3:List (List Int)) (x4:List Int) (x5 x6 x7 x8 x9 x10 x11:Int) (x12:List Ed) (x13:Int) (x14:List Sd) (sh:Int) (y:An):JE:=
 if pQ x0 x1 x2 x3 x4 x5 x6 x7 x8 x9 x10 x11 x12 x13 x14 sh y=true then JF x0 x1 x2 (x3.set (sh-1).toNat y.2.2.2) (x4.set (sh-1).toNat y.1) x14 x5 x6 x7 x8 x11 y.2.1 y.2.2.1 else (x0,x1,x2,x3,x4,x5,x6,x7,x8,x9,x10,x11,x12,x13,x14,0)
theorem NW {x0:Int} {x1:List Int} {x2:List Ed} {x3:List (List Int)} {x4:List Int} {x5 x6 x7 x8 x9 x10 x11:Int} {x12:List Ed} {x13:Int} {x14:List Sd} {sh:Int} {y:An} (h:pQ x0 x1 x2 x3 x4 x5 x6 x7 x8 x9 x10 x11 x12 x13 x14 sh y=true) :
  HdF x0 x1 x2 x3 x4 x14/\lu x0 y=true/\sh=x9/\(1<=sh/\sh<=x3.length)/\sO x0 x3.length x6 x7 x8=true:=by
 unfold pQ at h;simp only [aP,decide_eq_true_eq,Bool.not_eq_true',decide_eq_false_iff_not] at h;obtain ⟨h1,h2,h3,h4,h5⟩:=h;obtain ⟨hF,ht⟩:=aqz h1;unfold om at ht;rw [Bool.or_eq_true] at ht;rcases ht with ht|ht
 ·unfold tB at ht;simp only [aP,decide_eq_true_eq] at ht;exact absurd ht.2.1 h3
 ·simp only [aP,aQ] at ht;exact ⟨hF,h2,h4,by rw [h4];exact ht.2.1,ht.1.2.2⟩
theorem P9 {l:List Int} {i:Nat} {v:Int} (h:∀j,j<l.length->0<=l.getD j 0/\l.getD j 0<=1000000) (hv:0<=v/\v<=1000000):∀j,j<(l.set i v).length->0<=(l.set i v).getD j 0/\(l.set i v).getD j 0<=1000000:=by
 intro j hj;rw [gX] at hj;by_cases hij:i=j
 ·subst hij;rw [gD (List.getElem?_set_self hj)];exact hv
 ·rw [gD ((List.getElem?_set_ne hij).trans (getD_at hj))];exact h j hj
section
variable {x0:Int} {x1:List Int} {x2:List Ed} {x3:List (List Int)} {x4:List Int} {x14:List Sd} (i op a b:Int) (es:List Ed)
theorem aco (h2:x2.length<=66) (he:es.length<=66) (h1:x1.length<=12) (h14:x14.length<=80) :
  ∃(w c:_) (t1 t2 t3 t4 t5 t6 t7:Int) (t8:List Ed) (t9:Int) (s:List Sd) (m:Int),I_ x0 x1 x2 x3 x4 x14 i op a b es=(x0,w,c,x3,x4,t1,t2,t3,t4,t5,t6,t7,t8,t9,s,m)/\w.length<=12/\c.length<=132/\t8.length<=132/\s.length<=81:=by
 have hCl:=RO x2 es;have hIl:(jy x1 x2 es a b).length<=(lW x2 es).length:=List.length_filter_le _ _;have hd:=Zc (jy x1 x2 es a b) (lW x2 es);unfold I_;split
 ·split
  ·exact ⟨_,_,_,_,_,_,_,_,_,_,_,_,_,rfl,by rw [gX];exact h1,by omega,by simp,by simp;omega⟩
  ·exact ⟨_,_,_,_,_,_,_,_,_,_,_,_,_,rfl,by rw [gX];exact h1,by omega,by omega,by omega⟩
 ·exact ⟨_,_,_,_,_,_,_,_,_,_,_,_,_,rfl,h1,by omega,by simp,by simp;omega⟩
theorem aoQ (q:Int) (ok:Bool) (h2:x2.length<=66) (he:es.length<=66) (h1:x1.length<=12) (h14:x14.length<=80) :
  ∃(w c:_) (t1 t2 t3 t4 t5 t6 t7:Int) (t8:List Ed) (t9:Int) (s:List Sd) (m:Int),JF x0 x1 x2 x3 x4 x14 i op a b q ok es=(x0,w,c,x3,x4,t1,t2,t3,t4,t5,t6,t7,t8,t9,s,m)/\w.length<=12/\c.length<=132/\t8.length<=132/\s.length<=81:=by
 have say:∀v,∃(w c:_) (t1 t2 t3 t4 t5 t6 t7:Int) (t8:List Ed) (t9:Int) (s:List Sd) (m:Int),wV x0 x1 x2 x3 x4 x14 i op a b v=(x0,w,c,x3,x4,t1,t2,t3,t4,t5,t6,t7,t8,t9,s,m)/\w.length<=12/\c.length<=132/\t8.length<=132/\s.length<=81:=fun v=>⟨_,_,_,_,_,_,_,_,_,_,_,_,_,rfl,h1,by omega,by simp,by simp;omega⟩
 unfold JF;split
 ·split
  ·exact aco i op a b es h2 he h1 h14
  ·exact say _
 ·exact say _
end
section
variable (x0:Int) (x1:List Int) (x2:List Ed) (x3:List (List Int)) (x4:List Int) (x5 x6 x7 x8 x9 x10 x11:Int) (x12:List Ed) (x13:Int) (x14:List Sd) (sh:Int) (y0:Int) (y1:Bool) (y2:List Ed) (y3:List Int) (h1:x1.length<=1048576) (h2:x2.length<=1048576) (h3:x3.length<=1048576/\∀y,y∈x3->y.length<=1048576) (h4:x4.length<=1048576) (h12:x12.length<=1048576) (h14:x14.length<=1048576) (hy2:y2.length<=1048576) (hy3:y3.length<=1048576)
include h1 h2 h3 h4 h12 h14 hy2 hy3
theorem aoR:E8 ((x0,x1,x2,x3,x4,x5,x6,x7,x8,x9,x10,x11,x12,x13,x14),sh,(y0,y1,y2,y3))=some (Bv x0 x1 x2 x3 x4 x5 x6 x7 x8 x9 x10 x11 x12 x13 x14 sh (y0,y1,y2,y3),()):=by
 have hm:maxLen=9223372036854775807:=by decide
 show Wx BIG _=_;rw [aoB,ad7 x0 x1 x2 x3 x4 x5 x6 x7 x8 x9 x10 x11 x12 x13 x14 h1 h2 h3 h4 h12 h14,aa];dsimp only;rw [akU x0 x1 x2 x3 x4 x5 x6 x7 x8 x9 x10 x11 x12 x13 x14 h1 h2 h3 h12 h14,P5 x0 (y0,y1,y2,y3) hy2 hy3,aoI];have hx:(Option.bind (some (sP x0 x1 x2 x3 x4 x14 (om x0 x3.length x4 x14 x5 x6 x7 x8 x9 (x10,x11,x12,x13)),())) fun r1:Bool × Unit=>
   bif !r1.1 then some true else Option.bind (some (lu x0 (y0,y1,y2,y3),())) fun r2:Bool × Unit=>bif !r2.1 then some true else Option.bind (some (!decide (x9=0),())) fun r3:Bool × Unit=>bif !r3.1 then some true else bif !decide (sh=x9) then some true else some (!decide (y0=x10)))=some (!pQ x0 x1 x2 x3 x4 x5 x6 x7 x8 x9 x10 x11 x12 x13 x14 sh (y0,y1,y2,y3)):=by
  unfold pQ;simp only [aa];cases sP x0 x1 x2 x3 x4 x14 (om x0 x3.length x4 x14 x5 x6 x7 x8 x9 (x10,x11,x12,x13))<;>cases lu x0 (y0,y1,y2,y3)<;>cases decide (x9=0)<;>cases decide (sh=x9)<;>cases decide (y0=x10)<;>rfl
 refine (congrArg (fun o=>Option.bind o _) hx).trans ?_;unfold Bv;cases hok:pQ x0 x1 x2 x3 x4 x5 x6 x7 x8 x9 x10 x11 x12 x13 x14 sh (y0,y1,y2,y3) with
 | false=>rfl
 | true=>
  obtain ⟨hF,hA,hs,hsr,hr⟩:=NW hok;obtain ⟨r1,r2,r3,r4⟩:=aid hr;obtain ⟨a1,a2,a3,a4,a5,a6,a7⟩:=WI hA;have hcl:=jk hF.cuts;have hel:=jk a5;have hsd:=hF.said;have hk:=hF.k;have hnum:=hF.nums;have hn4:=P9 (l:=x4) (i:=(sh-1).toNat) (fun j hj=>by have:=(hF.o3 j (by omega)).2;omega) (show 0<=y0/\y0<=1000000 by simp only at a3 a4;omega);have e4:x4[(sh-1).toNat]?=some (x4.getD (sh-1).toNat 0):=getD_at (by omega);have e3:=aO (l:=x3) (i:=(sh-1).toNat) (by omega);simp only [bu,aa,ak,if_true];rw [wr (n:=sh-1) (by omega) (by omega),bG (by omega) (by omega),e4,aa,vH y3 hy3,aa,bG (by omega) (by omega),e3,aa];unfold JF;by_cases h6:x6=4
  ·subst h6;simp only [decide_true,bu,ak,if_true];by_cases h11:x11=3
   ·rw [ah h11,af,if_pos h11,RP _ _ _ _ _ _ _ _ _ _ _ hF.n hF.own ⟨(iO hF.cuts).2.1,by omega⟩ (by rw [gX];omega) (by rw [gX,gX];omega) (by omega) ⟨(iO a5).2.1,by omega⟩ r2 (by rw [gX];exact r3 rfl) hn4];rfl
   ·rw [au h11,ak,if_neg h11,vI _ _ _ _ _ _ _ _ _ _ _ _ _ _ (by omega)];rfl
  ·simp only [au h6,fw,af,if_neg h6];rw [amA,aa,vI _ _ _ _ _ _ _ _ _ _ _ _ _ _ (by omega)];rfl
theorem aoS:yf ((x0,x1,x2,x3,x4,x5,x6,x7,x8,x9,x10,x11,x12,x13,x14),sh,(y0,y1,y2,y3))=some (Bv x0 x1 x2 x3 x4 x5 x6 x7 x8 x9 x10 x11 x12 x13 x14 sh (y0,y1,y2,y3),()):=by
 have hm:maxLen=9223372036854775807:=by decide
 show V5 BIG _=_;rw [aot,xX x0 x1 x2 x3 x4 x5 x6 x7 x8 x9 x10 x11 x12 x13 x14 h1 h2 h3 h4 h12 h14,aa];dsimp only;rw [YM x0 x1 x2 x3 x4 x5 x6 x7 x8 x9 x10 x11 x12 x13 x14 h1 h2 h3 h12 h14,P6 x0 (y0,y1,y2,y3) hy2 hy3,WF];have hx:(Option.bind (some (sP x0 x1 x2 x3 x4 x14 (om x0 x3.length x4 x14 x5 x6 x7 x8 x9 (x10,x11,x12,x13)),())) fun r1:Bool × Unit=>
   bif !r1.1 then some true else Option.bind (some (lu x0 (y0,y1,y2,y3),())) fun r2:Bool × Unit=>bif !r2.1 then some true else Option.bind (some (!decide (x9=0),())) fun r3:Bool × Unit=>bif !r3.1 then some true else bif !decide (sh=x9) then some true else some (!decide (y0=x10)))=some (!pQ x0 x1 x2 x3 x4 x5 x6 x7 x8 x9 x10 x11 x12 x13 x14 sh (y0,y1,y2,y3)):=by
  unfold pQ;simp only [aa];cases sP x0 x1 x2 x3 x4 x14 (om x0 x3.length x4 x14 x5 x6 x7 x8 x9 (x10,x11,x12,x13))<;>cases lu x0 (y0,y1,y2,y3)<;>cases decide (x9=0)<;>cases decide (sh=x9)<;>cases decide (y0=x10)<;>rfl
 refine (congrArg (fun o=>Option.bind o _) hx).trans ?_;unfold Bv;cases hok:pQ x0 x1 x2 x3 x4 x5 x6 x7 x8 x9 x10 x11 x12 x13 x14 sh (y0,y1,y2,y3) with
 | false=>rfl
 | true=>
  obtain ⟨hF,hA,hs,hsr,hr⟩:=NW hok;obtain ⟨r1,r2,r3,r4⟩:=aid hr;obtain ⟨a1,a2,a3,a4,a5,a6,a7⟩:=WI hA;have hcl:=jk hF.cuts;have hel:=jk a5;have hsd:=hF.said;have hk:=hF.k;have hnum:=hF.nums;have hnn:=hF.n;have hown:=hF.own;have hn4:=P9 (l:=x4) (i:=(sh-1).toNat) (fun j hj=>by have:=(hF.o3 j (by omega)).2;omega) (show 0<=y0/\y0<=1000000 by simp only at a3 a4;omega);have e4:x4[(sh-1).toNat]?=some (x4.getD (sh-1).toNat 0):=getD_at (by omega);have e3:=aO (l:=x3) (i:=(sh-1).toNat) (by omega);have h3':(x3.set (sh-1).toNat y3).length<=1048576/\∀y,y∈x3.set (sh-1).toNat y3->y.length<=1048576:=⟨by rw [gX];omega,fun y hy=>by
   rcases List.mem_or_eq_of_mem_set hy with hy|rfl
   ·exact h3.2 y hy
   ·exact hy3⟩
  simp only [bu,aa,ak,if_true];rw [wr (n:=sh-1) (by omega) (by omega),bG (by omega) (by omega),e4,aa,ah (by simp;omega),af,bG (by omega) (by omega),e3,aa];simp only [List.nil_append];unfold JF;by_cases h6:x6=4
  ·subst h6;simp only [decide_true,bu,af,ak,if_true,aa];by_cases h11:x11=3
   ·simp only [ah h11,af,if_pos h11];rw [ad_ _ _ _ _ _ _ _ _ _ _ _ _ _ _ _ _ _ _ _ _ hF.n hF.own ⟨(iO hF.cuts).2.1,by omega⟩ (by rw [gX];omega) (by rw [gX,gX];omega) (by omega) ⟨(iO a5).2.1,by omega⟩ r2 (by rw [gX];exact r3 rfl) hn4,aa];obtain ⟨w,c,t1,t2,t3,t4,t5,t6,t7,t8,t9,s,m,e,l1,l2,l3,l4⟩:=aco (x0:=x0) (x1:=x1) (x2:=x2) (x3:=x3.set (sh-1).toNat y3) (x4:=x4.set (sh-1).toNat y0) (x14:=x14) x5 4 x7 x8 y2 (by omega) (by show y2.length<=66;exact hel) (by omega) (by omega);rw [e];simp only [frt];rw [xX _ _ _ _ _ _ _ _ _ _ _ _ _ _ _ (by omega) (by omega) h3' (by rw [gX];omega) (by omega) (by omega),aa]
   ·simp only [au h11,ak,if_neg h11];rw [jg _ _ _ _ _ _ _ _ _ _ _ _ _ _ (by omega)];rfl
  ·simp only [au h6,fw,af,ak,if_neg h6,aa];cases y1 with
   | true=>
    simp only [bu,ak,aa,if_true];rw [jg _ _ _ _ _ _ _ _ _ _ _ _ _ _ (by omega)];rfl
   | false=>
    simp only [fw,af,aa,Bool.false_eq_true,if_false];rw [jg _ _ _ _ _ _ _ _ _ _ _ _ _ _ (by omega)];rfl
end
inductive FT where
 | nil
 | nd (v:Int) (c s:FT)
def FT.vs:FT->List Int
 | .nil=>[]
 | .nd v c s=>v::(c.vs++s.vs)
def FT.sg:FT->Int->List Int
 | .nil,_=>[]
 | .nd v c s,r=>v::(c.sg v++r::s.sg r)
def FT.app:FT->FT->FT
 | .nil,g=>g
 | .nd v c s,g=>.nd v c (s.app g)
def tr (v:Int) (c:FT):List Int:=v::c.sg v
theorem ak0 (r:Int) (g:FT):∀f:FT,(f.app g).sg r=f.sg r++g.sg r
 | .nil=>rfl
 | .nd v c s=>by
  have:=ak0 r g s;simp [FT.app,FT.sg,this]
theorem ak1 (g:FT):∀f:FT,(f.app g).vs=f.vs++g.vs
 | .nil=>rfl
 | .nd v c s=>by
  have:=ak1 g s;simp [FT.app,FT.vs,this]
theorem U7:∀(f:FT) (r:Int),(f.sg r).length=2*f.vs.length
 | .nil,_=>rfl
 | .nd v c s,r=>by
  have:=U7 c v;have:=U7 s r;simp only [FT.sg,FT.vs,a_,bY];omega
theorem sQ (v:Int) (c:FT):(tr v c).length=2*c.vs.length+1:=by
 simp [tr,U7]
theorem acp:∀(f:FT) (r x:Int),x∈f.sg r↔x∈f.vs\/(x=r/\f.vs≠[])
 | .nil,r,x=>by simp [FT.sg,FT.vs]
 | .nd v c s,r,x=>by
  have h1:=acp c v x;have h2:=acp s r x;simp only [FT.sg,FT.vs,List.mem_cons,List.mem_append,h1,h2];constructor
  ·rintro (h | (h|⟨h,_⟩)|h|h|⟨h,_⟩)
   ·exact .inl (.inl h)
   ·exact .inl (.inr (.inl h))
   ·exact .inl (.inl h)
   ·exact .inr ⟨h,by simp⟩
   ·exact .inl (.inr (.inr h))
   ·exact .inr ⟨h,by simp⟩
  ·rintro ((h|h|h)|⟨h,_⟩)
   ·exact .inl h
   ·exact .inr (.inl (.inl h))
   ·exact .inr (.inr (.inr (.inl h)))
   ·exact .inr (.inr (.inl h))
theorem sU (v:Int) (c:FT) (x:Int):x∈tr v c↔x∈v::c.vs:=by
 simp only [tr,List.mem_cons,acp];constructor
 ·rintro (h|h|⟨h,_⟩)
  ·exact .inl h
  ·exact .inr h
  ·exact .inl h
 ·rintro (h|h)
  ·exact .inl h
  ·exact .inr (.inl h)
def oH (s:List Int × List Int) (v:Int):Option (List Int × List Int):=
 if 1<s.1.length/\s.1.getD (s.1.length-2) 0=v then some (s.1.take (s.1.length-1),s.2)
 else if (0<=v/\v<=11)/\v∉s.2 then some (s.1++[v],s.2++[v]) else none
theorem U8 {S α:Type} (st:S->α->Option S):∀(a b:List α) (s:S),fM st s (a++b)=(fM st s a).bind fun s'=>fM st s' b
 | [],b,s=>rfl
 | x::a,b,s=>by
  rw [List.cons_append,fM,fM];cases st s x with
  | none=>rfl
  | some s'=>simp only [aa,U8 st a b]
theorem acr:∀(f:FT) (r:Int) (P M:List Int),(∀x,x∈P->x∈M)->(∀x,x∈f.vs->x∉M)->f.vs.Nodup->(∀x,x∈f.vs->0<=x/\x<=11)->r∈M->fM oH (P++[r],M) (f.sg r)=some (P++[r],M++f.vs)
 | .nil,r,P,M,_,_,_,_,_=>by simp [FT.sg,FT.vs,fM]
 | .nd v c s,r,P,M,hP,hd,hn,hr,hrM=>by
  simp only [FT.vs] at hd hn hr ⊢
  rw [List.nodup_cons,List.mem_append,not_or,List.nodup_append] at hn
  obtain ⟨⟨n1,n2⟩,n3,n4,n5⟩:=hn
  have hv:=hd v (List.mem_cons_self ..)
  have s1:oH (P++[r],M) v=some (P++[r]++[v],M++[v]):=by
   unfold oH;rw [if_neg,if_pos ⟨hr v (List.mem_cons_self ..),hv⟩];rintro ⟨g1,g2⟩;simp only [bY,a_,List.length_nil] at g1 g2;have hlt:P.length+(0+1)-2<P.length:=by omega
   have:(P++[r])[P.length+(0+1)-2]?=some P[P.length+(0+1)-2]:=by
    rw [List.getElem?_append_left hlt,aO hlt]
   rw [gD this] at g2;exact hv (hP v (by rw [<-g2];exact List.getElem_mem _))
  have s2:=acr c v (P++[r]) (M++[v]) (fun x hx=>by
   rw [List.mem_append,List.mem_singleton] at hx ⊢
   rcases hx with hx|rfl
   ·exact .inl (hP x hx)
   ·exact .inl hrM) (fun x hx hm=>by
   rw [List.mem_append,List.mem_singleton] at hm
   rcases hm with hm|rfl
   ·exact hd x (List.mem_cons_of_mem _ (List.mem_append_left _ hx)) hm
   ·exact n1 hx) n3 (fun x hx=>hr x (List.mem_cons_of_mem _ (List.mem_append_left _ hx))) (by simp)
  have s3:oH (P++[r]++[v],M++[v]++c.vs) r=some (P++[r],M++[v]++c.vs):=by
   unfold oH
   rw [if_pos]
   ·have:(P++[r]++[v]).take ((P++[r]++[v]).length-1)=P++[r]:=by
     rw [show (P++[r]++[v]).length-1=(P++[r]).length from by simp,List.take_left]
    simp only
    rw [this]
   ·simp only [bY,a_,List.length_nil]
    refine ⟨by omega,?_⟩
    have:(P++[r]++[v])[P.length+(0+1)+(0+1)-2]?=some r:=by
     rw [List.getElem?_append_left (by simp),show P.length+(0+1)+(0+1)-2=P.length from by omega]
     simp
    exact gD this
  have s4:=acr s r P (M++[v]++c.vs) (fun x hx=>by simp [hP x hx]) (fun x hx hm=>by
   rw [List.mem_append,List.mem_append,List.mem_singleton] at hm
   rcases hm with (hm|rfl)|hm
   ·exact hd x (List.mem_cons_of_mem _ (List.mem_append_right _ hx)) hm
   ·exact n2 hx
   ·exact n5 x hm x hx rfl) n4 (fun x hx=>hr x (List.mem_cons_of_mem _ (List.mem_append_right _ hx))) (by simp [hrM])
  simp only [FT.sg]
  rw [fM,s1,aa,U8,s2,aa,fM,s3,aa,s4]
  simp
structure TrOk (v:Int) (c:FT):Prop where
 nd:(v::c.vs).Nodup
 rg:∀x,x∈v::c.vs->0<=x/\x<=11
theorem pR:∀(n:Nat) (l:List Int),l.Nodup->(∀x,x∈l->0<=x/\x<n)->l.length<=n
 | 0,l,_,h=>by
  cases l with
  | nil=>simp
  | cons x l=>have:=h x (List.mem_cons_self ..);omega
 | n+1,l,hn,h=>by
  have h1:=pR n (l.erase (n:Int)) (hn.erase _) (fun x hx=>by
   have h2:=(hn.mem_erase_iff).1 hx
   have:=h x h2.2
   have:=h2.1
   omega)
  have h2:=List.length_erase (a:=(n:Int)) (l:=l);split at h2
  ·rw [h2] at h1;omega
  ·rw [h2] at h1;omega
theorem TrOk.len {v:Int} {c:FT} (h:TrOk v c):c.vs.length<=11:=by
 have:=pR 12 (v::c.vs) h.nd (fun x hx=>by have:=h.rg x hx;omega);simp only [a_] at this;omega
theorem TrOk.run {v:Int} {c:FT} (h:TrOk v c):fM oH ([v],[v]) (c.sg v)=some ([v],v::c.vs):=by
 have hn:=h.nd;rw [List.nodup_cons] at hn;have:=acr c v [] [v] (by simp) (fun x hx hm=>by rw [List.mem_singleton] at hm;subst hm;exact hn.1 hx) hn.2 (fun x hx=>h.rg x (List.mem_cons_of_mem _ hx)) (by simp);simpa using this
theorem sV {α B:Type} (a:List α) (hl:a.length<18446744073709551616) (p:α->Bool) (b:B) {F:(Int->Option (Unit ⊕ B))->Int->Option (Unit ⊕ B)}
  (hF:∀self (i:Nat) y,a[i]?=some y->F self (i:Int)=if p y then some (.inr b) else self ((i+1:Nat):Int))
  (hE:∀self,F self (a.length:Int)=some (.inl ())):aJ BIG F 0=some (if a.any p=true then .inr b else .inl ()):=by
 refine ik (fun (x:Int)=>∃i:Nat,x=(i:Int)/\i<=a.length/\∀j (hj:j<a.length),j<i->p a[j]=false) (fun x=>a.length-x.toNat) (fun _=>_) (fun self x ⟨i,h1,h2,h3⟩ hs => ?_) (n:=BIG) (x:=0) (by simp;exact hl) ⟨0,rfl,by simp,fun j _ hj=>by omega⟩;subst h1;by_cases hi:i<a.length
 ·rw [hF self i a[i] (aO hi)];cases hp:p a[i] with
  | true=>rw [if_pos rfl,if_pos (List.any_eq_true.2 ⟨a[i],List.getElem_mem hi,hp⟩)]
  | false=>
   rw [if_neg (by simp)];refine hs _ ⟨i+1,rfl,hi,fun j hj hji => ?_⟩ (by simp;omega);by_cases hij:j=i
   ·subst hij;exact hp
   ·exact h3 j hj (by omega)
 ·have:i=a.length:=by omega
  subst this;rw [hE,if_neg];intro h;obtain ⟨y,hy,hp⟩:=List.any_eq_true.1 h;obtain ⟨j,hj,rfl⟩:=List.getElem_of_mem hy;rw [h3 j hj hj] at hp;cases hp
structure Fo (n:Nat) (es:List Ed) (pa:Int->Int->Prop) (rk:Int->Nat):Prop where
 rg:∀{a b},pa a b->(0<=a/\a<n)/\(0<=b/\b<n)
 ad:∀u v,((if v<u then (v,u) else (u,v))∈es)↔(pa u v\/pa v u)
 un:∀{a a' b},pa a b->pa a' b->a=a'
 up:∀{a b},pa a b->rk a<rk b
section
variable {n:Nat} {es:List Ed} {pa:Int->Int->Prop} {rk:Int->Nat} (F:Fo n es pa rk)
include F
def Nb (pa:Int->Int->Prop) (v fr u:Int):Prop:=u≠fr/\(pa u v\/pa v u)
omit F in
theorem aie {l:List Bool} {i j:Nat} (hi:i<l.length):(l.set i true).getD j false=true↔l.getD j false=true\/j=i:=by
 by_cases h:i=j
 ·subst h;rw [gD (List.getElem?_set_self hi)];simp
 ·simp only [bJ,List.getElem?_set_ne h];constructor
  ·exact .inl
  ·rintro (h'|h')
   ·exact h'
   ·exact absurd h'.symm h
end
section
variable {r:Int} {F:FT} {k:Nat} {X:List Int} {p w:Int} {C:FT} {Y:List Int} {F':FT}
end
structure HdS (h:Hd):Prop where
 a:h.2.1.length<=12
 b:h.2.2.1.length<=132
 c:h.2.2.2.1.length<=3/\∀y,y∈h.2.2.2.1->y.length<=12
 d:h.2.2.2.2.1.length<=3
 e:h.2.2.2.2.2.2.2.2.2.2.2.2.1.length<=132
 f:h.2.2.2.2.2.2.2.2.2.2.2.2.2.2.length<=81
noncomputable def tkU (h:Hd) (i op a b:Int):JE:=tkR h.1 h.2.1 h.2.2.1 h.2.2.2.1 h.2.2.2.2.1 h.2.2.2.2.2.1 h.2.2.2.2.2.2.1 h.2.2.2.2.2.2.2.1 h.2.2.2.2.2.2.2.2.1 h.2.2.2.2.2.2.2.2.2.1 h.2.2.2.2.2.2.2.2.2.2.1 h.2.2.2.2.2.2.2.2.2.2.2.1 h.2.2.2.2.2.2.2.2.2.2.2.2.1 h.2.2.2.2.2.2.2.2.2.2.2.2.2.1 h.2.2.2.2.2.2.2.2.2.2.2.2.2.2 i op a b
noncomputable def M_ (h:Hd) (sh:Int) (y:An):JE:=Bv h.1 h.2.1 h.2.2.1 h.2.2.2.1 h.2.2.2.2.1 h.2.2.2.2.2.1 h.2.2.2.2.2.2.1 h.2.2.2.2.2.2.2.1 h.2.2.2.2.2.2.2.2.1 h.2.2.2.2.2.2.2.2.2.1 h.2.2.2.2.2.2.2.2.2.2.1 h.2.2.2.2.2.2.2.2.2.2.2.1 h.2.2.2.2.2.2.2.2.2.2.2.2.1 h.2.2.2.2.2.2.2.2.2.2.2.2.2.1 h.2.2.2.2.2.2.2.2.2.2.2.2.2.2 sh y
noncomputable def hfR (h:Hd) (y:Rc):Int × Hd:=
 if y.1=1 then frt (tkU h y.2.1 y.2.2.1 y.2.2.2.1 y.2.2.2.2.1)
 else if y.1=2 then frt (M_ h y.2.2.2.2.2.1 (y.2.2.2.2.2.2.1,y.2.2.2.2.2.2.2.1,y.2.2.2.2.2.2.2.2.1,y.2.2.2.2.2.2.2.2.2.1)) else (0,h)
noncomputable def hfS (h:Hd) (y:Rc):Option Hd:=if (hfR h y).1=0 then none else some (hfR h y).2
theorem aqC {n:Int} {l:List Int} (h:mX n l=true):(l.length:Int)=n:=by
 unfold mX at h;split at h
 ·assumption
 ·cases h
theorem HdF.rows {x0:Int} {x1:List Int} {x2:List Ed} {x3:List (List Int)} {x4:List Int} {x14:List Sd} (h:HdF x0 x1 x2 x3 x4 x14):∀y,y∈x3->y.length<=12:=by
 intro y hy;obtain ⟨i,hi,rfl⟩:=List.getElem_of_mem hy;have h1:=(h.o3 i hi).1;rw [gD (aO hi)] at h1;have:=aqC h1;have:=h.n;omega
theorem aqD {h h':Hd} {y:Rc} (hs:HdS h) (e:hfS h y=some h'):HdS h':=by
 obtain ⟨x0,x1,x2,x3,x4,x5,x6,x7,x8,x9,x10,x11,x12,x13,x14⟩:=h;unfold hfS at e;split at e;case isTrue=>cases e
 case isFalse hne=>
 cases e;unfold hfR at hne ⊢;split;case isTrue h1=>
  rw [if_pos h1] at hne;unfold tkU tkR at hne ⊢;split;case isFalse hno=>rw [if_neg hno] at hne;exact absurd rfl hne
  case isTrue hok=>
  obtain ⟨hF,_⟩:=WL hok;have hcl:=jk hF.cuts;have hsd:=hF.said;have hn:=hF.n;have ho:=hF.own;have hk:=hF.k;have hnu:=hF.nums;obtain ⟨c,t1,t2,t3,t4,t5,t6,t7,t8,t9,s,m,er,l1,l2,l3⟩:=aoN x0 x1 x2 x3 x4 x14 y.2.1 y.2.2.1 y.2.2.2.1 y.2.2.2.2.1;rw [er];exact ⟨by show x1.length<=12;simp only at ho hn;omega,by show c.length<=132;simp only at hcl;omega,⟨by show x3.length<=3;exact hk.2,hF.rows⟩,by show x4.length<=3;simp only at hnu hk;omega,by show t8.length<=132;omega,by show s.length<=81;simp only at hsd;omega⟩
 case isFalse h1=>
 rw [if_neg h1] at hne;split;case isFalse h2=>rw [if_neg h2] at hne;exact absurd rfl hne
 case isTrue h2=>
 rw [if_pos h2] at hne;unfold M_ Bv at hne ⊢;split;case isFalse hno=>rw [if_neg hno] at hne;exact absurd rfl hne
 case isTrue hok=>
 obtain ⟨hF,hA,hsh,hsr,hr⟩:=NW hok;obtain ⟨a1,a2,a3,a4,a5,a6,a7⟩:=WI hA;have hcl:=jk hF.cuts;have hel:=jk a5;have hsd:=hF.said;have hn:=hF.n;have ho:=hF.own;have hk:=hF.k;have hnu:=hF.nums;simp only at hcl hel hsd hn ho hk hnu a6;obtain ⟨w,c,t1,t2,t3,t4,t5,t6,t7,t8,t9,s,m,er,l1,l2,l3,l4⟩:=aoQ (x0:=x0) (x1:=x1) (x2:=x2) (x3:=x3.set (y.2.2.2.2.2.1-1).toNat y.2.2.2.2.2.2.2.2.2.1) (x4:=x4.set (y.2.2.2.2.2.1-1).toNat y.2.2.2.2.2.2.1) (x14:=x14) x5 x6 x7 x8 y.2.2.2.2.2.2.2.2.1 x11 y.2.2.2.2.2.2.2.1 (by omega) (by omega) (by omega) (by omega);simp only;rw [er];refine ⟨l1,l2,⟨by show (x3.set _ _).length<=3;rw [gX];exact hk.2,fun z hz => ?_⟩,by show (x4.set _ _).length<=3;rw [gX];omega,l3,l4⟩;rcases List.mem_or_eq_of_mem_set hz with hz|rfl
 ·exact hF.rows z hz
 ·omega
theorem HdS.bd {h:Hd} (hs:HdS h):h.2.1.length<=1048576/\h.2.2.1.length<=1048576/\(h.2.2.2.1.length<=1048576/\∀y,y∈h.2.2.2.1->y.length<=1048576)/\h.2.2.2.2.1.length<=1048576/\h.2.2.2.2.2.2.2.2.2.2.2.2.1.length<=1048576/\h.2.2.2.2.2.2.2.2.2.2.2.2.2.2.length<=1048576:=by
 obtain ⟨a,b,c,d,e,f⟩:=hs;exact ⟨by omega,by omega,⟨by omega,fun y hy=>by have:=c.2 y hy;omega⟩,by omega,by omega,by omega⟩
theorem afM {h:Hd} (hs:HdS h) (i op a b:Int):EW (h,(i,op,a,b))=some (tkU h i op a b,()):=by
 obtain ⟨b1,b2,b3,b4,b5,b6⟩:=hs.bd;exact aoM _ _ _ _ _ _ _ _ _ _ _ _ _ _ _ i op a b b1 b2 b3 b4 b5 b6
theorem afN {h:Hd} (hs:HdS h) (sh:Int) (y:An) (h2:y.2.2.1.length<=1048576) (h3:y.2.2.2.length<=1048576):E8 (h,sh,y)=some (M_ h sh y,()):=by
 obtain ⟨b1,b2,b3,b4,b5,b6⟩:=hs.bd;exact aoR _ _ _ _ _ _ _ _ _ _ _ _ _ _ _ sh _ _ _ _ b1 b2 b3 b4 b5 b6 h2 h3
theorem afO {h:Hd} (hs:HdS h) (sh:Int) (y:An) (h2:y.2.2.1.length<=1048576) (h3:y.2.2.2.length<=1048576):yf (h,sh,y)=some (M_ h sh y,()):=by
 obtain ⟨b1,b2,b3,b4,b5,b6⟩:=hs.bd;exact aoS _ _ _ _ _ _ _ _ _ _ _ _ _ _ _ sh _ _ _ _ b1 b2 b3 b4 b5 b6 h2 h3
def FT.rts:FT->List Int
 | .nil=>[]
 | .nd v c s=>v::s.rts
theorem WM (g:FT):∀f:FT,(f.app g).rts=f.rts++g.rts
 | .nil=>rfl
 | .nd v c s=>by
  have:=WM g s;simp [FT.app,FT.rts,this]
theorem U9:∀(g:FT) {x:Int},x∈g.rts->x∈g.vs
 | .nil,x,h=>h
 | .nd v c s,x,h=>by
  simp only [FT.rts,List.mem_cons] at h;simp only [FT.vs,List.mem_cons,List.mem_append];rcases h with h|h
  ·exact .inl h
  ·exact .inr (.inr (U9 s h))
def RtO (pa:Int->Int->Prop) (v fr:Int) (g:FT):Prop:=g.rts.Pairwise (· < ·)/\∀u,u∈g.rts↔Nb pa v fr u
def GF (pa:Int->Int->Prop):FT->Int->Prop
 | .nil,_=>True
 | .nd u c s,v=>(RtO pa u v c/\GF pa c u)/\GF pa s v
theorem ak4 {pa:Int->Int->Prop} {v:Int} {g:FT}:∀{f:FT},GF pa f v->GF pa g v->GF pa (f.app g) v
 | .nil,_,h=>h
 | .nd u c s,h,h'=>⟨h.1,ak4 h.2 h'⟩
def QF (pa:Int->Int->Prop) (v fr:Int) (i:Nat) (f:FT):Prop:=f.rts.Pairwise (· < ·)/\(∀u,u∈f.rts↔Nb pa v fr u/\u<i)/\GF pa f v
theorem aoT {pa:Int->Int->Prop} {v fr:Int} {i:Nat} {f:FT} (h:QF pa v fr i f) (hno:¬Nb pa v fr i):QF pa v fr (i+1) f:=by
 refine ⟨h.1,fun u => ?_,h.2.2⟩;rw [h.2.1];constructor
 ·rintro ⟨h1,h2⟩;exact ⟨h1,by omega⟩
 ·rintro ⟨h1,h2⟩;refine ⟨h1,?_⟩;by_cases hu:u=(i:Int)
  ·subst hu;exact absurd h1 hno
  ·omega
theorem aqE {pa:Int->Int->Prop} {v fr:Int} {i:Nat} {f g:FT} (h:QF pa v fr i f) (hnb:Nb pa v fr i) (hg:RtO pa i v g) (hg':GF pa g i):QF pa v fr (i+1) (f.app (.nd i g .nil)):=by
 refine ⟨?_,fun u => ?_,ak4 h.2.2 ⟨⟨hg,hg'⟩,trivial⟩⟩
 ·rw [WM];simp only [FT.rts];rw [List.pairwise_append];refine ⟨h.1,by simp,fun a ha b hb => ?_⟩;rw [List.mem_singleton] at hb;subst hb;exact ((h.2.1 a).1 ha).2
 ·rw [WM,List.mem_append,h.2.1];simp only [FT.rts,List.mem_singleton];constructor
  ·rintro (⟨h1,h2⟩|rfl)
   ·exact ⟨h1,by omega⟩
   ·exact ⟨hnb,by omega⟩
  ·rintro ⟨h1,h2⟩;by_cases hu:u=(i:Int)
   ·exact .inr hu
   ·exact .inl ⟨h1,by omega⟩
end Go.Fw
