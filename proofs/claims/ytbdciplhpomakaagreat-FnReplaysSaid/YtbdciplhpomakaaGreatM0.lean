/- What the given functions come to. No conditions. -/
import Derived.Test.YtbdciplhpomakaaGreatX3
import Derived.IntWalk
set_option linter.unusedSectionVars false
namespace Go.Fw
theorem p_ {X B:Type} {F:(X->ah B)->X->ah B} (I:X->Prop) (μ:X->Nat) (Q:X->B->Prop)
  (h:∀self x,I x->(∀y,I y->μ y<μ x->∃b,self y=some b/\Q y b)->∃b,F self x=some b/\Q x b):∀{n:Nat} {x:X},μ x<n->I x->∃b,aK n F x=some b/\Q x b
 | 0,_,hn,_=>absurd hn (Nat.not_lt_zero _)
 | n+1,x,hn,hi=>h (it F n) x hi fun _ hy hm=>p_ I μ Q h (n:=n) (by omega) hy
theorem kI {X B:Type} {F:(X->ah B)->X->ah B} (I:X->Prop) (μ:X->Nat) (R:X->B)
  (h:∀self x,I x->(∀y,I y->μ y<μ x->self y=some (R y))->F self x=some (R x)) {n:Nat} {x:X} (hn:μ x<n) (hi:I x):aK n F x=some (R x):=by
 obtain ⟨b,h1,h2⟩:=p_ (F:=F) I μ (fun x b=>b=R x) (fun self x hx hs=>⟨_,h self x hx fun y hy hm=>by obtain ⟨b,h1,h2⟩:=hs y hy hm;rw [h1,h2],rfl⟩) hn hi;rw [h1,h2]
theorem wr {n:Int} (h : -9223372036854775808<=n) (h':n<=9223372036854775807):IntKind.wrap .i64 n=n:=by
 rw [IntKind.wrap_i64];omega
theorem bV {i:Nat} (h:i<maxLen):IntKind.wrap .i64 ((i:Int)+1)=((i+1:Nat):Int):=by
 have:maxLen=9223372036854775807:=by decide
 rw [wr (by omega) (by omega)];rfl
theorem bW {B:Type} {len:Nat} {i:Int} {k:Nat->ah B} (h:0<=i) (h':i<len):bnd len i k=k i.toNat:=by
 unfold bnd;rw [if_pos ⟨h,by omega⟩]
theorem aH {B:Type} {len:Nat} {i:Nat} {k:Nat->ah B} (h':i<len):bnd len (i:Int) k=k i:=by
 rw [bW (XZ i) (by omega)];simp
theorem lq {α B:Type} (a:aa α) (hl:a.length<18446744073709551616) {F:(Int->ah (Unit ⊕ B))->Int->ah (Unit ⊕ B)} (p:Nat->Bool) (b:B)
  (hF:∀self (i:Nat) y,a[i]?=some y->F self (i:Int)=if p i then self ((i+1:Nat):Int) else some (.inr b))
  (hE:∀self,F self (a.length:Int)=some (.inl ())):aK BIG F 0=some (if ∀i,i<a.length->p i=true then .inl () else .inr b):=by
 have hh:=p_ (F:=F) (fun x=>∃i:Nat,x=i/\i<=a.length) (fun x=>a.length-x.toNat) (fun x r=>((∀i:Nat,x<=(i:Int)->i<a.length->p i=true)/\r = .inl ())\/((∃i:Nat,i<a.length/\p i=false)/\r = .inr b)) (fun self x ⟨i,h1,h2⟩ hs => ?_) (n:=BIG) (x:=0) (by simp;exact hl) ⟨0,rfl,by simp⟩
 ·obtain ⟨r,hr,hq⟩:=hh;rw [hr];congr 1;rcases hq with ⟨h1,rfl⟩|⟨⟨i,h1,h2⟩,rfl⟩
  ·rw [if_pos fun i hi=>h1 i (by omega) hi]
  ·rw [if_neg];intro h;rw [h i h1] at h2;cases h2
 ·subst h1;by_cases hi:i<a.length
  ·rw [hF self i a[i] (aT hi)];cases hp:p i with
   | true=>
    rw [if_pos rfl];obtain ⟨r,hr,hq⟩:=hs _ ⟨i+1,rfl,hi⟩ (by simp;omega);refine ⟨r,hr,?_⟩;rcases hq with ⟨h1,rfl⟩|h1
    ·refine .inl ⟨fun k hk om => ?_,rfl⟩;by_cases h:k=i
     ·subst h;exact hp
     ·exact h1 k (by omega) om
    ·exact .inr h1
   | false=>exact ⟨_,rfl,.inr ⟨⟨i,hi,hp⟩,rfl⟩⟩
  ·have:i=a.length:=by omega
   subst this;exact ⟨_,hE self,.inl ⟨fun k hk om=>by omega,rfl⟩⟩
theorem afu:maxLen<18446744073709551616:=by decide
theorem ajy {α B:Type} [DecidableEq α] (a b:aa α) (hl:a.length<=maxLen) (d_:a.length=b.length) {F:(Int->ah (Unit ⊕ B))->Int->ah (Unit ⊕ B)} (r:B)
  (hF:∀self (i:Nat) x y,a[i]?=some x->b[i]?=some y->F self (i:Int)=if x=y then self ((i+1:Nat):Int) else some (.inr r))
  (hE:∀self,F self (a.length:Int)=some (.inl ())):aK BIG F 0=some (if a=b then .inl () else .inr r):=by
 rw [lq a (Nat.lt_of_le_of_lt hl afu) (fun i=>decide (a[i]?=b[i]?)) r (fun self i y hy => ?_) hE]
 ·congr 1;by_cases h:a=b
  ·subst h;simp
  ·rw [if_neg h,if_neg];intro h';apply h;apply X0 fun i => ?_
   by_cases hi:i<a.length
   ·simpa using h' i hi
   ·rw [Aa (by omega),Aa (by omega)]
 ·have hi:=(bf hy).1;have hb:b[i]?=some (b[i]'(by omega)):=aT (by omega);rw [hF self i y _ hy hb,hy,hb];simp
theorem jY {α S B:Type} (a:aa α) (hl:a.length<18446744073709551616) {F:(S × Int->ah B)->S × Int->ah B} (I:Nat->S->Prop) (st:S->α->S) (R:S->B) {s0:S} (h0:I 0 s0)
  (hI:∀i s y,a[i]?=some y->I i s->I (i+1) (st s y)) (hF:∀self s (i:Nat) y,a[i]?=some y->I i s->F self (s,(i:Int))=self (st s y,((i+1:Nat):Int)))
  (hE:∀self s,I a.length s->F self (s,(a.length:Int))=some (R s)):aK BIG F (s0,0)=some (R (a.foldl st s0)):=by
 have:=kI (F:=F) (fun x=>∃i:Nat,x.2=i/\i<=a.length/\I i x.1) (fun x=>a.length-x.2.toNat) (fun x=>R ((a.drop x.2.toNat).foldl st x.1)) (fun self x ⟨i,h1,h2,h3⟩ hs => ?_) (n:=BIG) (x:=(s0,0)) (by simp;exact hl) ⟨0,rfl,by simp,h0⟩
 ·simpa using this
 ·obtain ⟨s,j⟩:=x;simp only at h1 h2 h3;subst h1;by_cases hi:i<a.length
  ·have hy:=aT hi;rw [hF self s i a[i] hy h3,hs _ ⟨i+1,rfl,hi,hI _ _ _ hy h3⟩ (by simp;omega)];simp only [iB];rw [u6 hi,gK]
  ·have:i=a.length:=by omega
   subst this;rw [hE self s h3];simp
theorem agk {α:Type} {a t:aa α} {i:Nat} {z:α} (ht:t.length=a.length) (hi:i<a.length) (hz:t[i]?=some z):(t.take i++a.drop i).set i z=t.take (i+1)++a.drop (i+1):=by
 have jB:i<t.length:=by omega
 rw [aT jB,aO] at hz;subst hz;rw [List.set_append_right _ _ (by simp;omega),u6 hi,show i-(t.take i).length=0 from by simp;omega,List.set_cons_zero,rO jB,lW];rfl
inductive Con (E:List (Int × Int)):Int->Int->Prop
 | refl (v:Int):Con E v v
 | fwd {u v w:Int}:Con E u v->(v,w)∈E->Con E u w
 | bwd {u v w:Int}:Con E u v->(w,v)∈E->Con E u w
theorem Con.trans {E:aa (Int × Int)} {u v w:Int} (h:Con E u v) (h':Con E v w):Con E u w:=by
 induction h' with
 | refl=>exact h
 | fwd _ he ih=>exact .fwd ih he
 | bwd _ he ih=>exact .bwd ih he
theorem Con.symm {E:aa (Int × Int)} {u v:Int} (h:Con E u v):Con E v u:=by
 induction h with
 | refl=>exact .refl _
 | fwd _ he ih=>exact Con.trans (.bwd (.refl _) he) ih
 | bwd _ he ih=>exact Con.trans (.fwd (.refl _) he) ih
theorem Con.mono {E E':aa (Int × Int)} (hE:∀e,e∈E->e∈E') {u v:Int} (h:Con E u v):Con E' u v:=by
 induction h with
 | refl=>exact .refl _
 | fwd _ he ih=>exact .fwd ih (hE _ he)
 | bwd _ he ih=>exact .bwd ih (hE _ he)
theorem Con.of {E:aa (Int × Int)} {u v:Int} (h:(u,v)∈E):Con E u v:=.fwd (.refl _) h
theorem Con.sub {E E':aa (Int × Int)} (hE:∀e,e∈E->Con E' e.1 e.2) {u v:Int} (h:Con E u v):Con E' u v:=by
 induction h with
 | refl=>exact .refl _
 | fwd _ he ih=>exact ih.trans (hE _ he)
 | bwd _ he ih=>exact ih.trans (hE _ he).symm
theorem Con.nil {u v:Int} (h:Con [] u v):u=v:=by
 induction h with
 | refl=>rfl
 | fwd _ he _=>cases he
 | bwd _ he _=>cases he
theorem Con.snoc {E:aa (Int × Int)} {a b u v:Int}:Con (E++[(a,b)]) u v↔Con E u v\/(Con E u a/\Con E b v)\/(Con E u b/\Con E a v):=by
 constructor
 ·intro h;induction h with
  | refl=>exact .inl (.refl _)
  | fwd _ he ih=>
   rcases bJ.1 he with h1|h1
   ·rcases ih with h|⟨h,h'⟩|⟨h,h'⟩
    ·exact .inl (.fwd h h1)
    ·exact .inr (.inl ⟨h,.fwd h' h1⟩)
    ·exact .inr (.inr ⟨h,.fwd h' h1⟩)
   ·cases cB.1 h1;rcases ih with h|⟨h,h'⟩|⟨h,h'⟩
    ·exact .inr (.inl ⟨h,.refl _⟩)
    ·exact .inr (.inl ⟨h,.refl _⟩)
    ·exact .inl h
  | bwd _ he ih=>
   rcases bJ.1 he with h1|h1
   ·rcases ih with h|⟨h,h'⟩|⟨h,h'⟩
    ·exact .inl (.bwd h h1)
    ·exact .inr (.inl ⟨h,.bwd h' h1⟩)
    ·exact .inr (.inr ⟨h,.bwd h' h1⟩)
   ·cases cB.1 h1;rcases ih with h|⟨h,h'⟩|⟨h,h'⟩
    ·exact .inr (.inr ⟨h,.refl _⟩)
    ·exact .inl h
    ·exact .inr (.inr ⟨h,.refl _⟩)
 ·have hm:∀{x y:Int},Con E x y->Con (E++[(a,b)]) x y:=fun h=>h.mono fun e he=>jr _ he
  have d_:Con (E++[(a,b)]) a b:=.of (jJ _ (cB.2 rfl));rintro (h|⟨h,h'⟩|⟨h,h'⟩)
  ·exact hm h
  ·exact (hm h).trans (d_.trans (hm h'))
  ·exact (hm h).trans (d_.symm.trans (hm h'))
def o8 (n:Nat) (E:aa (Int × Int)):Prop:=∀e,e∈E->0<=e.1/\e.1<n/\0<=e.2/\e.2<n
theorem Con.range {n:Nat} {E:aa (Int × Int)} (hE:o8 n E) {u v:Int} (h:Con E u v) (hu:0<=u/\u<n):0<=v/\v<n:=by
 induction h with
 | refl=>exact hu
 | fwd _ he _=>exact ⟨(hE _ he).2.2.1,(hE _ he).2.2.2⟩
 | bwd _ he _=>exact ⟨(hE _ he).1,(hE _ he).2.1⟩
def Lab (n:Nat) (E:aa (Int × Int)) (l:aa Int):Prop:=
 l.length=n/\∀(v:Nat) (x:Int),l[v]?=some x->Con E v x/\0<=x/\∀u:Int,0<=u->Con E v u->x<=u
theorem Lab.le {n:Nat} {E:aa (Int × Int)} {l:aa Int} (h:Lab n E l) {v:Nat} {x:Int} (hx:l[v]?=some x):x<=v:=
 (h.2 v x hx).2.2 v (XZ v) (.refl _)
theorem Lab.lt {n:Nat} {E:aa (Int × Int)} {l:aa Int} (h:Lab n E l) {v:Nat} {x:Int} (hx:l[v]?=some x):0<=x/\x<n:=by
 have h1:=h.le hx;have h2:=(bf hx).1;have h3:=(h.2 v x hx).2.1;have h4:=h.1;omega
theorem Lab.iff {n:Nat} {E:aa (Int × Int)} {l:aa Int} (h:Lab n E l) {u v:Nat} {x y:Int} (hx:l[u]?=some x) (hy:l[v]?=some y):x=y↔Con E u v:=by
 have h1:=h.2 u x hx;have h2:=h.2 v y hy;constructor
 ·intro e;subst e;exact h1.1.trans h2.1.symm
 ·intro c;have a:=h1.2.2 y h2.2.1 (c.trans h2.1);have b:=h2.2.2 x h1.2.1 (c.symm.trans h1.1);omega
theorem Lab.self {n:Nat} {E:aa (Int × Int)} {l:aa Int} (h:Lab n E l) {v:Nat} {x:Int} (hx:l[v]?=some x):l[x.toNat]?=some x:=by
 have h1:=h.lt hx;have hi:x.toNat<l.length:=by rw [h.1];omega
 rw [aT hi];have h2:=h.2 v x hx;have hc:Con E (x.toNat:Int) v:=by rw [jL h1.1];exact h2.1.symm
 rw [(h.iff (aT hi) hx).2 hc]
theorem Lab.uniq {n:Nat} {E E':aa (Int × Int)} {l l':aa Int} (h:Lab n E l) (h':Lab n E' l') (hc:∀u v:Int,Con E u v↔Con E' u v):l=l':=by
 apply X0;intro i;by_cases hi:i<n
 ·have e1:l[i]?=some (l[i]'(by rw [h.1];exact hi)):=aT _;have e2:l'[i]?=some (l'[i]'(by rw [h'.1];exact hi)):=aT _;rw [e1,e2];have h1:=h.2 i _ e1;have h2:=h'.2 i _ e2;have a:=h1.2.2 _ h2.2.1 ((hc _ _).2 h2.1);have b:=h2.2.2 _ h1.2.1 ((hc _ _).1 h1.1);congr 1;omega
 ·rw [Aa (by rw [h.1];omega),Aa (by rw [h'.1];omega)]
def qa (n:Nat):aa Int:=(List.range n).map fun (i:Nat)=>(i:Int)
theorem Xy {n v:Nat} {x:Int} (h:(qa n)[v]?=some x):v<n/\x=v:=by
 have hi:=(bf h).1;simp only [qa,dY,sU] at hi;simp only [qa,kM,RN hi,dA,aO] at h;exact ⟨hi,h.symm⟩
theorem vQ (n:Nat):(qa n).length=n:=by simp [qa]
theorem Lab.zero (n:Nat):Lab n [] (qa n):=by
 refine ⟨vQ n,fun v x h => ?_⟩;obtain ⟨_,rfl⟩:=Xy h;exact ⟨.refl _,XZ v,fun u _ h=>by rw [h.nil];exact Int.le_refl _⟩
def unL (l:aa Int) (x y:Int):aa Int:=l.map fun z=>if z=(if y > x then y else x) then (if y<x then y else x) else z
theorem an_ (l:aa Int) (x y:Int):(unL l x y).length=l.length:=by simp [unL]
theorem ajA (l:aa Int) (x:Int):unL l x x=l:=by
 unfold unL;conv=>rhs;rw [<-List.map_id l]
 apply RJ;intro z _;simp only [gt_iff_lt,Int.lt_irrefl,if_false,id];split<;>simp_all
theorem Lab.union {n:Nat} {E:aa (Int × Int)} {l:aa Int} (h:Lab n E l) {a b:Nat} {x y:Int} (hx:l[a]?=some x) (hy:l[b]?=some y):Lab n (E++[((a:Int),(b:Int))]) (unL l x y):=by
 refine ⟨by rw [an_,h.1],fun v z hz => ?_⟩;simp only [unL,kM,dh] at hz;obtain ⟨w,hw,hz⟩:=hz;have hax:=h.2 a x hx;have hby:=h.2 b y hy;have V7:=h.2 v w hw;have ew:∀{c:Nat} {t:Int},l[c]?=some t->(w=t↔Con E v c):=fun hc=>h.iff hw hc
 have hA:=ew hx;have hB:=ew hy;have d_:Con (E++[((a:Int),(b:Int))]) a b:=.of (jJ _ (cB.2 rfl));have hm:∀{s t:Int},Con E s t->Con (E++[((a:Int),(b:Int))]) s t:=fun h=>h.mono fun e he=>jr _ he
 by_cases hxy:x=y
 ·subst hxy;have aC7:Con E a b:=(h.iff hx hy).1 rfl;have:z=w:=by
   subst hz;simp only [gt_iff_lt,Int.lt_irrefl,if_false];split<;>simp_all
  subst this;refine ⟨hm V7.1,V7.2.1,fun u hu hc => ?_⟩;apply V7.2.2 u hu;rcases Con.snoc.1 hc with h1|⟨h1,h2⟩|⟨h1,h2⟩
  ·exact h1
  ·exact h1.trans (aC7.trans h2)
  ·exact h1.trans (aC7.symm.trans h2)
 ·have key:∀u:Int,0<=u->Con (E++[((a:Int),(b:Int))]) v u->(w<=u)\/(w=x/\y<=u)\/(w=y/\x<=u):=by
   intro u hu hc;rcases Con.snoc.1 hc with h1|⟨h1,h2⟩|⟨h1,h2⟩
   ·exact .inl (V7.2.2 u hu h1)
   ·exact .inr (.inl ⟨hA.2 h1,hby.2.2 u hu h2⟩)
   ·exact .inr (.inr ⟨hB.2 h1,hax.2.2 u hu h2⟩)
  by_cases hwx:w=x
  ·have hva:=hA.1 hwx;subst hwx;by_cases bU:y > w
   ·rw [if_pos bU,if_neg (by omega)] at hz;subst hz;refine ⟨hm V7.1,V7.2.1,fun u hu hc => ?_⟩;rcases key u hu hc with h1|h1|h1<;>omega
   ·rw [if_neg bU,if_pos rfl,if_pos (by omega)] at hz;subst hz;refine ⟨(hm hva).trans (d_.trans (hm hby.1)),hby.2.1,fun u hu hc => ?_⟩;rcases key u hu hc with h1|h1|h1<;>omega
  ·by_cases hwy:w=y
   ·have hvb:=hB.1 hwy;subst hwy;by_cases bU:w > x
    ·rw [if_pos bU,if_pos rfl,if_neg (by omega)] at hz;subst hz;refine ⟨(hm hvb).trans (d_.symm.trans (hm hax.1)),hax.2.1,fun u hu hc => ?_⟩;rcases key u hu hc with h1|h1|h1<;>omega
    ·rw [if_neg bU,if_neg hwx] at hz;subst hz;refine ⟨hm V7.1,V7.2.1,fun u hu hc => ?_⟩;rcases key u hu hc with h1|h1|h1<;>omega
   ·rw [if_neg (by split<;>omega)] at hz;subst hz;refine ⟨hm V7.1,V7.2.1,fun u hu hc => ?_⟩;rcases key u hu hc with h1|h1|h1<;>omega
def unE (l:aa Int) (e:Int × Int):aa Int:=unL l (l.getD e.1.toNat 0) (l.getD e.2.toNat 0)
theorem SE (l:aa Int) (e:Int × Int):(unE l e).length=l.length:=an_ _ _ _
theorem Lab.unE {n:Nat} {E:aa (Int × Int)} {l:aa Int} (h:Lab n E l) {e:Int × Int} (he:0<=e.1/\e.1<n/\0<=e.2/\e.2<n):Lab n (E++[e]) (unE l e):=by
 have h1:e.1.toNat<l.length:=by rw [h.1];omega
 have h2:e.2.toNat<l.length:=by rw [h.1];omega
 have:=h.union (a:=e.1.toNat) (b:=e.2.toNat) (aT h1) (aT h2);rw [jL he.1,jL he.2.2.1] at this;unfold Go.Fw.unE;rw [dw,dw,aT h1,aT h2];exact this
theorem Lab.fold {n:Nat}:∀{D E:aa (Int × Int)} {l:aa Int},Lab n E l->o8 n D->Lab n (E++D) (D.foldl Go.Fw.unE l)
 | [],E,l,h,_=>by simpa using h
 | e::D,E,l,h,hD=>by
  have:=Lab.fold (D:=D) (h.unE (hD e (dX ..))) fun x hx=>hD x (dU _ hx)
  rw [gK];rwa [lW] at this
def labs (n:Nat) (E:aa (Int × Int)):aa Int:=E.foldl unE (qa n)
theorem lu {n:Nat} {E:aa (Int × Int)} (h:o8 n E):Lab n E (labs n E):=by
 have:=(Lab.zero n).fold h;simpa [labs] using this
theorem dV (n:Nat) (E:aa (Int × Int)):(labs n E).length=n:=by
 have:∀(E:aa (Int × Int)) (l:aa Int),(E.foldl unE l).length=l.length:=by
  intro E;induction E with
  | nil=>simp
  | cons e E ih=>intro l;rw [gK,ih,SE]
 rw [labs,this,vQ]
def rlE (l:aa Int) (e:Int × Int):aa Int:=
 let x:=l.getD e.1.toNat 0
 let y:=l.getD e.2.toNat 0
 let l:=if x<y then l.set e.2.toNat x else l
 if y<x then l.set e.1.toNat y else l
theorem aoa (l:aa Int) (e:Int × Int):(rlE l e).length=l.length:=by
 unfold rlE;simp only;split<;>split<;>simp
def lrnd (E:aa (Int × Int)) (l:aa Int):aa Int:=E.foldl rlE l
theorem ajB:∀(E:aa (Int × Int)) (l:aa Int),(lrnd E l).length=l.length
 | [],l=>rfl
 | e::E,l=>by show (lrnd E (rlE l e)).length=_;rw [ajB E,aoa]
section
variable {n:Nat} {E:aa (Int × Int)} {L:aa Int}
def Dn (n:Nat) (E:aa (Int × Int)) (l:aa Int):Prop:=l.length=n/\∀(v:Nat) (x:Int),l[v]?=some x->Con E v x/\0<=x
theorem Dn.ge (hL:Lab n E L) {l:aa Int} (h:Dn n E l) {v:Nat} {x y:Int} (hx:l[v]?=some x) (hy:L[v]?=some y):y<=x:=
 (hL.2 v y hy).2.2 x (h.2 v x hx).2 (h.2 v x hx).1
theorem Dn.set {l:aa Int} (h:Dn n E l) {v:Nat} {x:Int} (hc:Con E v x) (h0:0<=x):Dn n E (l.set v x):=by
 refine ⟨by simp [h.1],fun u y hu => ?_⟩;rw [Cr] at hu;split at hu
 ·subst v;split at hu
  ·cases hu;exact ⟨hc,h0⟩
  ·cases hu
 ·exact h.2 u y hu
theorem getD_at {l:aa Int} {i:Nat} (h:i<l.length):l[i]?=some (l.getD i 0):=by
 rw [dw,aT h];rfl
theorem Dn.rlE (hL:Lab n E L) {l:aa Int} (h:Dn n E l) {e:Int × Int} (hm:e∈E) (he:0<=e.1/\e.1<n/\0<=e.2/\e.2<n) :
  Dn n E (rlE l e)/\(∀(v:Nat),(rlE l e).getD v 0<=l.getD v 0) /\
  (l.getD e.1.toNat 0=L.getD e.1.toNat 0->(rlE l e).getD e.2.toNat 0=L.getD e.2.toNat 0) /\
  (l.getD e.2.toNat 0=L.getD e.2.toNat 0->(rlE l e).getD e.1.toNat 0=L.getD e.1.toNat 0):=by
 obtain ⟨h1,h2,h3,h4⟩:=he;have i1:e.1.toNat<l.length:=by rw [h.1];omega
 have i2:e.2.toNat<l.length:=by rw [h.1];omega
 have j1:e.1.toNat<L.length:=by rw [hL.1];omega
 have j2:e.2.toNat<L.length:=by rw [hL.1];omega
 have c12:Con E (e.1.toNat:Int) (e.2.toNat:Int):=by
  rw [jL h1,jL h3];exact .of hm
 have FU:=(hL.iff (getD_at j1) (getD_at j2)).2 c12;have a1:=h.2 _ _ (getD_at i1);have a2:=h.2 _ _ (getD_at i2);have g1:=h.ge hL (getD_at i1) (getD_at j1);have g2:=h.ge hL (getD_at i2) (getD_at j2);have gs:∀(i:Nat) (z:Int) (v:Nat),i<l.length->(l.set i z).getD v 0=if i=v then z else l.getD v 0:=by
  intro i z v hi;rw [dw,Cr];split
  ·subst v;simp
  ·rw [dw]
 unfold Go.Fw.rlE;simp only;by_cases bU:l.getD e.1.toNat 0<l.getD e.2.toNat 0
 ·rw [if_pos bU,if_neg (by omega)];refine ⟨h.set (c12.symm.trans a1.1) a1.2,fun v => ?_,fun hd => ?_,fun hd => ?_⟩
  ·rw [gs _ _ _ i2];split
   ·subst v;omega
   ·exact Int.le_refl _
  ·rw [gs _ _ _ i2,if_pos rfl];omega
  ·omega
 ·rw [if_neg bU];by_cases NH:l.getD e.2.toNat 0<l.getD e.1.toNat 0
  ·rw [if_pos NH];refine ⟨h.set (c12.trans a2.1) a2.2,fun v => ?_,fun hd => ?_,fun hd => ?_⟩
   ·rw [gs _ _ _ i1];split
    ·subst v;omega
    ·exact Int.le_refl _
   ·omega
   ·rw [gs _ _ _ i1,if_pos rfl];omega
  ·rw [if_neg NH];refine ⟨h,fun v=>Int.le_refl _,fun hd => ?_,fun hd => ?_⟩<;>omega
theorem Dn.rnd (hL:Lab n E L) (hE:o8 n E):∀(D:aa (Int × Int)) (l:aa Int),(∀e,e∈D->e∈E)->Dn n E l ->
  Dn n E (lrnd D l)/\(∀v:Nat,(lrnd D l).getD v 0<=l.getD v 0) /\
  ∀e,e∈D->(l.getD e.1.toNat 0=L.getD e.1.toNat 0->(lrnd D l).getD e.2.toNat 0=L.getD e.2.toNat 0)/\(l.getD e.2.toNat 0=L.getD e.2.toNat 0->(lrnd D l).getD e.1.toNat 0=L.getD e.1.toNat 0)
 | [],l,_,h=>⟨h,fun v=>Int.le_refl _,fun e he=>by cases he⟩
 | e::D,l,hs,h=>by
  have hm:=hs e (dX ..)
  obtain ⟨h1,h2,h3,h4⟩:=h.rlE hL hm (hE e hm)
  obtain ⟨k1,k2,k3⟩:=Dn.rnd hL hE D (Go.Fw.rlE l e) (fun x hx=>hs x (dU _ hx)) h1
  -- what is done stays done
  have dn:∀{l':aa Int} (v:Nat),v<n->Dn n E l'->(∀u:Nat,l'.getD u 0<=l.getD u 0)->l.getD v 0=L.getD v 0->l'.getD v 0=L.getD v 0:=by
   intro l' v hv hl' df hd;have hg:=hl'.ge hL (getD_at (l:=l') (i:=v) (by rw [hl'.1];exact hv)) (getD_at (l:=L) (i:=v) (by rw [hL.1];exact hv));have:=df v;omega
  have dn':∀(v:Nat),v<n->(Go.Fw.rlE l e).getD v 0=L.getD v 0->(Go.Fw.lrnd D (Go.Fw.rlE l e)).getD v 0=L.getD v 0:=by
   intro v hv hd
   have hg:=k1.ge hL (getD_at (i:=v) (by rw [k1.1];exact hv)) (getD_at (l:=L) (i:=v) (by rw [hL.1];exact hv))
   have:=k2 v
   omega
  refine ⟨k1,fun v=>Int.le_trans (k2 v) (h2 v),fun e' HV => ?_⟩
  rcases a_.1 HV with rfl|HV
  ·have hb:=hE _ hm
   exact ⟨fun hd=>dn' _ (by omega) (h3 hd),fun hd=>dn' _ (by omega) (h4 hd)⟩
  ·have hb:=hE _ (hs e' (dU _ HV))
   exact ⟨fun hd=>(k3 e' HV).1 (dn _ (by omega) h1 h2 hd),fun hd=>(k3 e' HV).2 (dn _ (by omega) h1 h2 hd)⟩
def Q5 (n:Nat) (L l:aa Int):Nat:=(List.range n).countP fun v=>decide (l.getD v 0=L.getD v 0)
theorem afv {p q:Nat->Bool}:∀{m:aa Nat},(∀x,x∈m->p x=true->q x=true)->(∃x,x∈m/\p x=false/\q x=true)->m.countP p<m.countP q
 | [],_,⟨x,hx,_⟩=>by cases hx
 | a::m,h,⟨x,hx,hp,hq⟩=>by
  rw [List.countP_cons,List.countP_cons];have df:m.countP p<=m.countP q:=List.countP_mono_left fun y hy=>h y (dU _ hy)
  rcases a_.1 hx with rfl|hx
  ·rw [if_neg (by simp [hp]),if_pos hq];omega
  ·have:=afv (fun y hy=>h y (dU _ hy)) ⟨x,hx,hp,hq⟩;have ha:=h a (dX ..);cases hpa:p a with
   | true=>rw [ha hpa];simp;omega
   | false=>cases hqa:q a<;>simp<;>omega
theorem ajC {D:Int->Prop} {u v:Int} (h:Con E u v) (hu:D u) (hv:¬D v):∃x y:Int,D x/\¬D y/\((x,y)∈E\/(y,x)∈E):=by
 induction h with
 | refl=>exact absurd hu hv
 | @fwd a b _ he ih=>
  by_cases hb:D a
  ·exact ⟨_,_,hb,hv,.inl he⟩
  ·exact ih hb
 | @bwd a b _ he ih=>
  by_cases hb:D a
  ·exact ⟨_,_,hb,hv,.inr he⟩
  ·exact ih hb
def Mv (E:aa (Int × Int)):Nat->aa Int->aa Int
 | 0,l=>l
 | k+1,l=>Mv E k (Go.Fw.lrnd E l)
theorem afw (hL:Lab n E L) (hE:o8 n E) {l:aa Int} (h:Dn n E l) (hs:∀v:Nat,v<n->L.getD v 0=v->l.getD v 0=v) (aZ:l≠L) :
  Q5 n L l<Q5 n L (Go.Fw.lrnd E l):=by
 obtain ⟨k1,k2,k3⟩:=Dn.rnd hL hE E l (fun _ h=>h) h;have stay:∀v:Nat,v<n->l.getD v 0=L.getD v 0->(Go.Fw.lrnd E l).getD v 0=L.getD v 0:=by
  intro v hv hd;have hg:=k1.ge hL (getD_at (i:=v) (by rw [k1.1];exact hv)) (getD_at (l:=L) (i:=v) (by rw [hL.1];exact hv));have:=k2 v;omega
 have:∃v:Nat,v<n/\l.getD v 0≠L.getD v 0:=by
  apply yV;intro hn;apply aZ;apply X0;intro i;by_cases hi:i<n
  ·rw [getD_at (l:=l) (i:=i) (by rw [h.1];exact hi),getD_at (l:=L) (i:=i) (by rw [hL.1];exact hi)];congr 1;exact yV fun hc=>hn ⟨i,hi,hc⟩
  ·rw [Aa (by rw [h.1];omega),Aa (by rw [hL.1];omega)]
 obtain ⟨v,hv,Hy⟩:=this;have gL:=getD_at (l:=L) (i:=v) (by rw [hL.1];exact hv);have hm:=hL.lt gL;have Di:=hL.self gL;have axk:=(hL.2 v _ gL).1;obtain ⟨x,y,hx,hy,he⟩:=ajC (D:=fun z:Int=>0<=z/\z<n/\l.getD z.toNat 0=L.getD z.toNat 0) axk.symm
  ⟨hm.1,hm.2,by
   have e1:L.getD (L.getD v 0).toNat 0=L.getD v 0:=by rw [dw (i:=(L.getD v 0).toNat),Di];rfl
   rw [e1,hs (L.getD v 0).toNat (by omega) (by rw [e1];omega)];omega⟩
  (fun hd=>Hy (by simpa using hd.2.2))
 refine afv (fun z hz hp => ?_) ⟨y.toNat,?_,?_,?_⟩
 ·simp only [decide_eq_true_eq] at hp ⊢;exact stay z (jg.1 hz) hp
 ·rw [jg];rcases he with he|he<;>have:=hE _ he<;>simp only at this<;>omega
 ·simp only [decide_eq_false_iff_not];intro hd;apply hy;rcases he with he|he<;>have:=hE _ he<;>simp only at this<;>exact ⟨by omega,by omega,hd⟩
 ·simp only [decide_eq_true_eq];rcases he with he|he
  ·exact (k3 _ he).1 hx.2.2
  ·exact (k3 _ he).2 hx.2.2
theorem afx (hL:Lab n E L) (hE:o8 n E):∀(k:Nat) (l:aa Int),Dn n E l->(∀v:Nat,v<n->L.getD v 0=v->l.getD v 0=v)->n<=Q5 n L l+k->Mv E k l=L
 | 0,l,h,hs,hc=>by
  have FM:Q5 n L l=n:=by
   have:Q5 n L l<=(List.range n).length:=List.countP_le_length;rw [sU] at this;omega
  apply yV
  intro aZ
  have:=afw hL hE h hs aZ
  have:Q5 n L (Go.Fw.lrnd E l)<=(List.range n).length:=List.countP_le_length
  rw [sU] at this
  omega
 | k+1,l,h,hs,hc=>by
  obtain ⟨k1,k2,_⟩:=Dn.rnd hL hE E l (fun _ h=>h) h
  refine afx hL hE k (Go.Fw.lrnd E l) k1 (fun v hv e => ?_) ?_
  ·have hg:=k1.ge hL (getD_at (i:=v) (by rw [k1.1];exact hv)) (getD_at (l:=L) (i:=v) (by rw [hL.1];exact hv))
   have:=k2 v
   have:=hs v hv e
   omega
  ·by_cases aZ:l=L
   ·subst aZ
    have:Q5 n l (Go.Fw.lrnd E l)=n:=by
     unfold Q5
     rw [show n=(List.range n).length from by simp,<-sU (n:=n),List.countP_eq_length.2]
     ·simp
     ·intro v hv
      simp only [sU,jg] at hv
      simp only [decide_eq_true_eq]
      have hg:=k1.ge hL (getD_at (i:=v) (by rw [k1.1];exact hv)) (getD_at (l:=l) (i:=v) (by rw [hL.1];exact hv))
      have:=k2 v
      omega
    omega
   ·have:=afw hL hE h hs aZ
    omega
theorem aq3 (hE:o8 n E):Mv E n (qa n)=labs n E:=by
 refine afx (lu hE) hE n (qa n) ⟨vQ n,fun v x h => ?_⟩ (fun v hv e => ?_) (by omega)
 ·obtain ⟨_,rfl⟩:=Xy h;exact ⟨.refl _,XZ v⟩
 ·have:=getD_at (l:=qa n) (i:=v) (by rw [vQ];exact hv);exact (Xy this).2
end
theorem Xz (a b c:Int):bH (a,b,c)=some (decide (b<=a)&&decide (a<=c),()):=by
 show WR BIG _=_;rw [awo];cases decide (b<=a)<;>rfl
theorem ayo (a b c:Int):fw (a,b,c)=some (decide (b<=a)&&decide (a<=c),()):=by
 show aqu BIG _=_;rw [aDN];cases decide (b<=a)<;>rfl
abbrev Ed:=Int × Int
def Fu (own:aa Int) (s:Int) (y:Ed):Bool:=(decide (0<=y.1)&&decide (y.1<own.length)&&decide (own[y.1.toNat]?=some s))&&(decide (0<=y.2)&&decide (y.2<own.length)&&decide (own[y.2.toNat]?=some s))
theorem aob (own:aa Int) (h:own.length<=1048576) (v s:Int):SB (own,v,s)=some (decide (0<=v)&&decide (v<own.length)&&decide (own[v.toNat]?=some s),()):=by
 show acM BIG _=_;rw [azY,ayo,ae,wr (by omega) (by omega)];by_cases h0:0<=v
 ·by_cases h1:v<own.length
  ·have hi:v.toNat<own.length:=by omega
   rw [ak h0,ak h1,ak (by omega)];simp only [wM,ai];rw [bW h0 h1,aT hi];simp
  ·rw [ak h0,aA h1,aA (by omega)];rfl
 ·rw [aA h0];rfl
theorem mZ {α:Type} (p:α->Bool):∀(l:aa α) (s:aa α),l.foldl (fun s y=>if p y then s++[y] else s) s=s++l.filter p
 | [],s=>by simp
 | y::l,s=>by
  rw [gK,mZ p l];cases h:p y<;>simp [h]
theorem aup (own:aa Int) (es:aa Ed) (s:Int) (h:own.length<=1048576) (he:es.length<=1048576):Qt (own,es,s)=some (es.filter (Fu own s),()):=by
 have hm:maxLen=9223372036854775807:=by decide
 show Qs BIG _=_;rw [aug,jY es (by omega) (fun i (c:aa Ed)=>c.length<=i) (fun c y=>if Fu own s y then c++[y] else c) id (by simp) (fun i c y _ (h:c.length<=i)=>by show List.length (if _ then _ else _)<=_;split<;>(try simp)<;>omega)]
 ·rw [mZ];rfl
 ·intro self c i y hy (hc:c.length<=i);have hi:=(bf hy).1;simp only [show ((i:Int)<(es.length:Int)) from by omega,decide_true,ai];rw [aH hi,hy,ae,aob _ h,ae,aob _ h,bV (by omega)];unfold Fu;cases decide (0<=y.1)&&decide (y.1<own.length)&&decide (own[y.1.toNat]?=some s)<;>cases decide (0<=y.2)&&decide (y.2<own.length)&&decide (own[y.2.toNat]?=some s)<;>simp [show c.length+1<=4294967296 from by omega]
 ·intro self c hc;simp
theorem auq (own:aa Int) (es:aa Ed) (s:Int) (h:own.length<=1048576) (he:es.length<=1048576):PP (own,es,s)=some (es.filter (Fu own s),()):=by
 have hm:maxLen=9223372036854775807:=by decide
 show PN BIG _=_;rw [atQ,jY es (by omega) (fun i (c:aa Ed)=>c.length<=i) (fun c y=>if Fu own s y then c++[y] else c) id (by simp) (fun i c y _ (h:c.length<=i)=>by show List.length (if _ then _ else _)<=_;split<;>(try simp)<;>omega)]
 ·rw [mZ];rfl
 ·intro self c i y hy (hc:c.length<=i);have hi:=(bf hy).1;simp only [show ((i:Int)<(es.length:Int)) from by omega,decide_true,ai];rw [aH hi,hy,ae,Xz,ae,Xz,ae,bV (by omega),wr (by omega) (by omega)];unfold Fu;by_cases a1:0<=y.1
  ·by_cases a2:y.1<own.length
   ·by_cases b1:0<=y.2
    ·by_cases b2:y.2<own.length
     ·have k1:y.1.toNat<own.length:=by omega
      have k2:y.2.toNat<own.length:=by omega
      rw [bW a1 a2,bW b1 b2,aT k1,aT k2];by_cases c1:own[y.1.toNat]=s<;>by_cases c2:own[y.2.toNat]=s<;>simp [a1,a2,b1,b2,c1,c2,show y.1<=(own.length:Int)-1 from by omega,show y.2<=(own.length:Int)-1 from by omega,show c.length+1<=4294967296 from by omega]
     ·have:¬y.2<=(own.length:Int)-1:=by omega
      simp [a1,a2,b1,b2,this]
    ·simp [a1,a2,b1]
   ·have:¬y.1<=(own.length:Int)-1:=by omega
    simp [a1,a2,this]
  ·simp [a1]
 ·intro self c hc;simp
abbrev Sd:=Int × Int × Int × Int × Int × Int
def aY (a b c:Int):Bool:=decide (b<=a)&&decide (a<=c)
theorem dM (a b c:Int):bH (a,b,c)=some (aY a b c,()):=Xz a b c
theorem jd (a b c:Int):fw (a,b,c)=some (aY a b c,()):=ayo a b c
theorem aW {a b c:Int}:aY a b c=true↔b<=a/\a<=c:=by simp [aY]
def eG (n:Int) (e:Ed):Bool:=aY n 1 12&&(aY e.1 0 (n-1)&&(aY e.2 0 (n-1)&&decide (e.1<e.2)))
theorem Q6 (n:Int) (e:Ed):Bj (n,e)=some (eG n e,()):=by
 show P5 BIG _=_;rw [atT,jd,ae];unfold eG;cases h:aY n 1 12 with
 | false=>rfl
 | true=>
  have:=aW.1 h;rw [wr (by omega) (by omega)];simp only [jd,ae,ai,dZ];cases aY e.1 0 (n-1)<;>cases aY e.2 0 (n-1)<;>rfl
theorem GZ (n:Int) (e:Ed):wu (n,e)=some (eG n e,()):=by
 show O3 BIG _=_;rw [atw,dM,ae];unfold eG;cases h:aY n 1 12 with
 | false=>rfl
 | true=>
  have:=aW.1 h;rw [wr (by omega) (by omega)];simp only [dM,ae,ai,dZ];cases aY e.1 0 (n-1)<;>cases aY e.2 0 (n-1)<;>rfl
def lsB (x y:Ed):Bool:=decide (x.1<y.1) || (decide (x.1=y.1)&&decide (x.2<y.2))
theorem XA (x y:Ed):zG (x,y)=some (lsB x y,()):=by
 show Xc BIG _=_;rw [aww];unfold lsB;cases decide (x.1<y.1)<;>cases decide (x.1=y.1)<;>rfl
theorem Mw (x y:Ed):xB (x,y)=some (lsB x y,()):=by
 show K7 BIG _=_;rw [apT];unfold lsB;cases decide (x.1<y.1)<;>cases decide (x.1=y.1)<;>rfl
def eP (n:Int) (es:aa Ed) (i:Nat):Bool:=match es[i]? with
 | some y=>eG n y&&(match i with
  | 0=>true
  | j+1=>match es[j]? with
   | some x=>lsB x y
   | none=>false)
 | none=>false
theorem aq4 {n:Int} {es:aa Ed} {y:Ed} (h:es[0]?=some y):eP n es 0=eG n y:=by
 unfold eP;rw [h];simp
theorem aq5 {n:Int} {es:aa Ed} {x y:Ed} {j:Nat} (h:es[j+1]?=some y) (h':es[j]?=some x):eP n es (j+1)=(eG n y&&lsB x y):=by
 unfold eP;rw [h];simp only [h']
def mG (n:Int) (es:aa Ed):Bool:=if ∀i,i<es.length->eP n es i=true then decide ((es.length:Int)<=66) else false
theorem j_ {n:Int} {es:aa Ed} (h:mG n es=true):es.length<=66:=by
 unfold mG at h;split at h
 ·rw [decide_eq_true_eq] at h;omega
 ·cases h
theorem Db (n:Int) (es:aa Ed) (hl:es.length<=1048576):tO (n,es)=some (mG n es,()):=by
 have hm:maxLen=9223372036854775807:=by decide
 show LV BIG _=_;rw [aqy,lq es (by omega) (eP n es) false]
 ·unfold mG;split<;>rfl
 ·intro self i y hy;have hi:=(bf hy).1;simp only [show ((i:Int)<(es.length:Int)) from by omega,decide_true,ai];rw [aH hi,hy,ae,Q6,bV (by omega)];cases i with
  | zero=>
   rw [aq4 hy];cases eG n y<;>simp
  | succ j=>
   have hj:es[j]?=some (es[j]'(by omega)):=aT (by omega);rw [aq5 hy hj,show (((j+1:Nat):Int)-1)=(j:Int) from by omega,wr (n:=(j:Int)) (by omega) (by omega)];cases hb:eG n y with
   | false=>simp
   | true=>
    simp only [ae,bC,ax,show (0:Int)<((j+1:Nat):Int) from by omega,decide_true,ai,dZ];rw [aH (by omega),hj];simp only [ae];simp only [ae,XA];cases lsB _ y<;>rfl
 ·intro self;simp
theorem Az (n:Int) (es:aa Ed) (hl:es.length<=1048576):qF (n,es)=some (mG n es,()):=by
 have hm:maxLen=9223372036854775807:=by decide
 show Ik BIG _=_;rw [alf,lq es (by omega) (eP n es) false]
 ·unfold mG;split<;>rfl
 ·intro self i y hy;have hi:=(bf hy).1;simp only [show ((i:Int)<(es.length:Int)) from by omega,decide_true,ai];rw [aH hi,hy,ae,GZ,bV (by omega)];cases i with
  | zero=>
   rw [aq4 hy];cases eG n y<;>simp
  | succ j=>
   have hj:es[j]?=some (es[j]'(by omega)):=aT (by omega);rw [aq5 hy hj,show (((j+1:Nat):Int)-1)=(j:Int) from by omega,wr (n:=(j:Int)) (by omega) (by omega)];cases hb:eG n y with
   | false=>simp
   | true=>
    simp only [ae,bC,ax,show (0:Int)<((j+1:Nat):Int) from by omega,decide_true,ai,dZ];rw [aH (by omega),hj];simp only [ae];rw [aH hi,hy];simp only [ae,Mw];cases lsB _ y<;>rfl
 ·intro self;simp
abbrev Bn:=Int × Int × List (Int × Int) × Int
def qb (n:Int) (o:Bn):Bool:=aY n 1 12&&(aY o.1 1 100000&&(aY o.2.1 1 4&&(mG n o.2.2.1&&(if o.2.1=3 then decide (o.2.2.1.length=0)&&aY o.2.2.2 0 (n-1) else if o.2.1=4 then decide (0<o.2.2.1.length)&&decide (o.2.2.2=0) else decide (o.2.2.1.length=1)&&decide (o.2.2.2=0)))))
theorem Mx (n:Int) (o:Bn) (hl:o.2.2.1.length<=1048576):CL (n,o)=some (qb n o,()):=by
 show K_ BIG _=_;rw [apX];simp only [dM,Az n _ hl,ae];unfold qb;cases h:aY n 1 12 with
 | false=>rfl
 | true=>
  have:=aW.1 h;rw [wr (by omega) (by omega)];cases h1:aY o.1 1 100000 with
  | false=>rfl
  | true=>
   cases h2:aY o.2.1 1 4 with
   | false=>rfl
   | true=>
    cases h3:mG n o.2.2.1 with
    | false=>rfl
    | true=>
     simp only [bC,ax,ae,dZ];by_cases k3:o.2.1=3
     ·rw [if_pos k3,ak k3,ai];by_cases hz:o.2.2.1.length=0
      ·rw [ak hz,ak (by omega)];rfl
      ·rw [aA hz,aA (by omega)];rfl
     ·rw [if_neg k3,aA k3,ax];by_cases k4:o.2.1=4
      ·rw [if_pos k4,ak k4,ai];by_cases hz:0<o.2.2.1.length
       ·rw [ak hz,ak (by omega)];rfl
       ·rw [aA hz,aA (by omega)];rfl
      ·rw [if_neg k4,aA k4,ax];by_cases hz:o.2.2.1.length=1
       ·rw [ak hz,ak (by omega)];rfl
       ·rw [aA hz,aA (by omega)];rfl
theorem MB (n:Int) (o:Bn) (hl:o.2.2.1.length<=1048576):CY (n,o)=some (qb n o,()):=by
 show LX BIG _=_;rw [aqC];simp only [jd,Db n _ hl,ae];unfold qb;cases h:aY n 1 12 with
 | false=>rfl
 | true=>
  have:=aW.1 h;rw [wr (by omega) (by omega)];cases h1:aY o.1 1 100000 with
  | false=>rfl
  | true=>
   cases h3:mG n o.2.2.1 with
   | false=>simp
   | true=>
    simp only [bC,ax,ae,dZ];by_cases k3:o.2.1=3
    ·have h2:aY o.2.1 1 4=true:=aW.2 (by omega);rw [h2,if_pos k3,ak k3];rw [aA (by omega:¬o.2.1=1),aA (by omega:¬o.2.1=2)];by_cases hz:o.2.2.1.length=0
     ·rw [ak hz,ak (show (o.2.2.1.length:Int)=0 from by omega)];by_cases hv:o.2.2.2=0<;>simp [hv]
     ·rw [aA hz,aA (show ¬(o.2.2.1.length:Int)=0 from by omega)];by_cases hv:o.2.2.2=0<;>simp [hv]
    ·rw [if_neg k3,aA k3];by_cases hv:o.2.2.2=0
     ·simp only [hv,decide_true,bC,ax,ae,wL];by_cases k4:o.2.1=4
      ·have h2:aY o.2.1 1 4=true:=aW.2 (by omega);rw [h2,if_pos k4,ak k4,aA (by omega:¬o.2.1=1),aA (by omega:¬o.2.1=2)];simp
      ·rw [if_neg k4,aA k4];by_cases k1:o.2.1=1
       ·have h2:aY o.2.1 1 4=true:=aW.2 (by omega);rw [h2,ak k1];simp;omega
       ·by_cases k2:o.2.1=2
        ·have h2:aY o.2.1 1 4=true:=aW.2 (by omega);rw [h2,aA k1,ak k2];simp;omega
        ·have h2:aY o.2.1 1 4=false:=by
          cases hh:aY o.2.1 1 4 with
          | false=>rfl
          | true=>have:=aW.1 hh;omega
         rw [h2,aA k1,aA k2];rfl
     ·simp [hv]
def lbP (l:aa Int) (i:Nat):Bool:=match l[i]? with
 | some y=>aY y 0 i&&(match l[y.toNat]? with
  | some z=>decide (z=y)
  | none=>false)
 | none=>false
theorem aur {l:aa Int} {i:Nat} {y z:Int} (h:l[i]?=some y) (h':l[y.toNat]?=some z):lbP l i=(aY y 0 i&&decide (z=y)):=by
 unfold lbP;rw [h];simp only [h']
theorem ayp {l:aa Int} {i:Nat} {y:Int} (h:l[i]?=some y) (h':aY y 0 i=false):lbP l i=false:=by
 unfold lbP;rw [h];simp only [h',Bool.false_and]
def sH (n:Int) (l:aa Int):Bool:=if (l.length:Int)=n then (if ∀i,i<l.length->lbP l i=true then true else false) else false
theorem VK (n:Int) (l:aa Int) (hl:l.length<=1048576):Aq (n,l)=some (sH n l,()):=by
 have hm:maxLen=9223372036854775807:=by decide
 show IK BIG _=_;rw [alL];unfold sH;by_cases hn:(l.length:Int)=n
 ·rw [if_pos hn,ak hn,bC,ax,lq l (by omega) (lbP l) false]
  ·split<;>rfl
  ·intro self i y hy;have hi:=(bf hy).1;simp only [show ((i:Int)<(l.length:Int)) from by omega,decide_true,ai];rw [aH hi,hy,ae,jd,bV (by omega)];cases hb:aY y 0 (i:Int) with
   | false=>rw [ayp hy hb];simp
   | true=>
    have:=aW.1 hb;have hz:l[y.toNat]?=some (l[y.toNat]'(by omega)):=aT (by omega);rw [aur hy hz,hb];simp only [ae,bC,ax,dZ];rw [bW (by omega) (by omega),hz];simp only [ae];by_cases hd:l[y.toNat]'(by omega)=y<;>simp [hd]
  ·intro self;simp
 ·rw [if_neg hn,aA hn];rfl
theorem Q7 (n:Int) (l:aa Int) (hl:l.length<=1048576):xD (n,l)=some (sH n l,()):=by
 have hm:maxLen=9223372036854775807:=by decide
 show Ef BIG _=_;rw [aig];unfold sH;by_cases hn:(l.length:Int)=n
 ·rw [if_pos hn,ak hn,bC,ax];subst hn;rw [lq l (by omega) (lbP l) false]
  ·split<;>rfl
  ·intro self i y hy;have hi:=(bf hy).1;simp only [show ((i:Int)<(l.length:Int)) from by omega,decide_true,ai];simp only [aH hi,hy,ae,dM,bV (show i<maxLen from by omega)];cases hb:aY y 0 (i:Int) with
   | false=>rw [ayp hy hb];simp
   | true=>
    have:=aW.1 hb;have hz:l[y.toNat]?=some (l[y.toNat]'(by omega)):=aT (by omega);rw [aur hy hz,hb];simp only [ae,bC,ax,dZ];rw [bW (by omega) (by omega),hz];simp only [ae];by_cases hd:l[y.toNat]'(by omega)=y<;>simp [hd]
  ·intro self;simp
 ·rw [if_neg hn,aA hn];rfl
abbrev An:=Int × Bool × List (Int × Int) × List Int
def qc (n:Int) (o:An):Bool:=aY n 1 12&&(aY o.1 1 100000&&(mG n o.2.2.1&&sH n o.2.2.2))
theorem VL (n:Int) (o:An) (hl:o.2.2.1.length<=1048576) (hl':o.2.2.2.length<=1048576):Av (n,o)=some (qc n o,()):=by
 show IR BIG _=_;rw [alR];simp only [jd,Db n _ hl,VK n _ hl',ae];unfold qc;cases aY n 1 12<;>cases aY o.1 1 100000<;>cases mG n o.2.2.1<;>rfl
theorem VM (n:Int) (o:An) (hl:o.2.2.1.length<=1048576) (hl':o.2.2.2.length<=1048576):Ak (n,o)=some (qc n o,()):=by
 show Iy BIG _=_;rw [alu];simp only [dM,Az n _ hl,Q7 n _ hl',ae];unfold qc;cases aY n 1 12<;>cases aY o.1 1 100000<;>cases mG n o.2.2.1<;>rfl
theorem abe (x:Ed):lsB x x=false:=by simp [lsB]
theorem aoc (x y:Ed):lsB x y=true↔x.1<y.1\/(x.1=y.1/\x.2<y.2):=by simp [lsB]
theorem Bo {x y z:Ed} (h:lsB x y=true) (h':lsB y z=true):lsB x z=true:=by
 rw [aoc] at *;omega
theorem SF {x y:Ed} (h:lsB x y=false) (h':lsB y x=false):x=y:=by
 have h1:¬lsB x y=true:=by simp [h]
 have h2:¬lsB y x=true:=by simp [h']
 rw [aoc] at h1 h2;exact Prod.ext (by omega) (by omega)
theorem Q8 {x y:Ed} (h:lsB x y=true):lsB y x=false:=by
 cases h':lsB y x with
 | false=>rfl
 | true=>have:=Bo h h';rw [abe] at this;cases this
abbrev uG (l:List Ed):Prop:=l.Pairwise (fun x y=>lsB x y=true)
def ins (l:aa Ed) (e:Ed):aa Ed:=l.filter (fun y=>lsB y e)++[e]++l.filter (fun y=>lsB e y)
theorem mP {l:aa Ed} {e x:Ed}:x∈ins l e↔x=e\/x∈l:=by
 simp only [ins,bJ,jQ,cB];constructor
 ·rintro ((h|h)|h)
  ·exact .inr h.1
  ·exact .inl h
  ·exact .inr h.1
 ·rintro (h|h)
  ·exact .inl (.inr h)
  ·cases h1:lsB x e with
   | true=>exact .inl (.inl ⟨h,rfl⟩)
   | false=>
    cases h2:lsB e x with
    | true=>exact .inr ⟨h,rfl⟩
    | false=>exact .inl (.inr (SF h1 h2))
theorem acP {l:aa Ed} {e:Ed} (h:uG l):uG (ins l e):=by
 simp only [ins,uG,lW,List.pairwise_append,Ko,List.pairwise_cons];refine ⟨h.filter _,⟨fun y hy=>(jQ.1 hy).2,h.filter _⟩,fun x hx y hy => ?_⟩;have h1:=(jQ.1 hx).2;rcases a_.1 hy with hy|hy
 ·subst hy;exact h1
 ·exact Bo h1 (jQ.1 hy).2
theorem J_ (e:Ed):∀l:aa Ed,(l.filter (fun y=>lsB y e)).length+(l.filter (fun y=>lsB e y)).length<=l.length
 | []=>by simp
 | y::l=>by
  have:=J_ e l;simp only [Kw];cases h1:lsB y e<;>cases h2:lsB e y<;>simp
  ·omega
  ·omega
  ·omega
  ·rw [Q8 h1] at h2;cases h2
theorem az2 (l:aa Ed) (e:Ed):(ins l e).length<=l.length+1:=by
 have:=J_ e l;simp only [ins,dR,Kq];omega
def xZ:aa Ed->Ed->Nat
 | [],_=>0
 | y::l,e=>if lsB y e then xZ l e+1 else 0
theorem acQ {l:aa Ed} {e:Ed} (h:uG l) (aZ:e∉l):l.take (xZ l e)++[e]++l.drop (xZ l e)=ins l e:=by
 induction l with
 | nil=>rfl
 | cons y l ih=>
  rw [uG,List.pairwise_cons] at h;have ih:=ih h.2 (fun hh=>aZ (by simp [hh]));cases h1:lsB y e with
  | true=>
   have h2:=Q8 h1;simp only [xZ,h1,if_true,Ab,List.drop_succ_cons,ny,ih];simp only [ins,Kw,h1,h2,if_true,ny];simp
  | false=>
   have h2:lsB e y=true:=by
    cases h2:lsB e y with
    | true=>rfl
    | false=>exact absurd (SF h1 h2).symm (fun hh=>aZ (by simp [hh]))
   have h3:∀z,z∈l->lsB z e=false/\lsB e z=true:=fun z hz=>by
    have:=Bo h2 (h.1 z hz);exact ⟨Q8 this,this⟩
   have f1:l.filter (fun y=>lsB y e)=[]:=by
    rw [List.filter_eq_nil_iff];intro z hz;simp [(h3 z hz).1]
   have f2:l.filter (fun y=>lsB e y)=l:=by
    rw [List.filter_eq_self];intro z hz;exact (h3 z hz).2
   simp only [xZ,h1,ins,Kw,h2,if_true,f1,f2];simp
theorem Bp (l:aa Ed) (e:Ed) (hl:l.length<=maxLen):ww (l,e)=some (decide (e∈l),()):=by
 show Gz BIG _=_;rw [ael,lq l (Nat.lt_of_le_of_lt hl afu) (fun i=>decide (l[i]?≠some e)) true (fun self i y hy=>by
   have hi:=(bf hy).1
   simp only [show ((i:Int)<(l.length:Int)) from by omega,decide_true,ai]
   rw [aH hi,hy,ae,bV (by omega)]
   obtain ⟨y1,y2⟩:=y
   obtain ⟨e1,e2⟩:=e
   by_cases h1:y1=e1<;>by_cases h2:y2=e2<;>simp [h1,h2]) (fun self=>by simp)]
 by_cases h:e∈l
 ·rw [if_neg,ak h]
  ·rfl
  ·intro hh;obtain ⟨i,hi⟩:=List.getElem?_of_mem h;have:=hh i (bf hi).1;rw [decide_eq_true_eq] at this;exact this hi
 ·rw [if_pos,aA h]
  ·rfl
  ·intro i hi;rw [decide_eq_true_eq];exact fun hh=>h (eZ hh)
theorem MC (l:aa Ed) (e:Ed) (hl:l.length<=maxLen):xS (l,e)=some (decide (e∈l),()):=by
 rw [<-Bp l e hl];show L9 BIG _=Gz BIG _;rw [aqG,ael];all_goals rfl
theorem Q9 (l:aa Ed) (e:Ed) (hl:l.length<=1048576):Bg (l,e)=some (ins l e,()):=by
 have hm:maxLen=9223372036854775807:=by decide
 show Pg BIG _=_;rw [atD,jY l (by omega) (fun i (c:aa Ed)=>c.length<=i) (fun c y=>if lsB y e then c++[y] else c) id (by simp) (fun i c y _ (h:c.length<=i)=>by show List.length (if _ then _ else _)<=_;split<;>(try simp)<;>omega)]
 ·rw [mZ];simp only [id,gX,ae];have h1:=qX (fun y=>lsB y e) l;rw [ak (by simp;omega),ai,jY l (by omega) (fun i (c:aa Ed)=>c.length<=l.length+1+i) (fun c y=>if lsB e y then c++[y] else c) id (by simp;omega) (fun i c y _ (h:c.length<=_)=>by show List.length (if _ then _ else _)<=_;split<;>(try simp)<;>omega)]
  ·rw [mZ];rfl
  ·intro self c i y hy (hc:c.length<=_);have hi:=(bf hy).1;simp only [show ((i:Int)<(l.length:Int)) from by omega,decide_true,ai];simp only [aH hi,hy,ae,Mw,bV (show i<maxLen from by omega)];cases lsB e y with
   | false=>simp
   | true=>simp [show c.length+1<=4294967296 from by omega]
  ·intro self c hc;simp
 ·intro self c i y hy (hc:c.length<=i);have hi:=(bf hy).1;simp only [show ((i:Int)<(l.length:Int)) from by omega,decide_true,ai];simp only [aH hi,hy,ae,Mw,bV (show i<maxLen from by omega)];cases lsB y e with
  | false=>simp
  | true=>simp [show c.length+1<=4294967296 from by omega]
 ·intro self c hc;simp
theorem aus:∀(l:aa Ed) (e:Ed),xZ l e<=l.length
 | [],_=>by simp [xZ]
 | y::l,e=>by
  have:=aus l e;simp only [xZ,bI];split<;>omega
theorem aut:∀{l:aa Ed} {e y:Ed} {i:Nat},i<=xZ l e->l[i]?=some y->lsB y e=decide (i<xZ l e)
 | [],_,_,_,_,hy=>by simp at hy
 | z::l,e,y,i,hi,hy=>by
  cases hz:lsB z e with
  | false=>
   simp only [xZ,hz] at hi ⊢;have:i=0:=by simpa using hi
   subst this;simp only [Co,aO] at hy;subst hy;simp [hz]
  | true=>
   simp only [xZ,hz,if_true] at hi ⊢;cases i with
   | zero=>
    simp only [Co,aO] at hy;subst hy;simp [hz]
   | succ i=>
    simp only [Kn] at hy;rw [aut (by omega) hy];simp
theorem Jc (l:aa Ed) (e:Ed) (hl:l.length<=1048576):uF (l,e)=some (l.take (xZ l e)++[e]++l.drop (xZ l e),()):=by
 have hm:maxLen=9223372036854775807:=by decide
 have df:=aus l e;show IQ BIG _=_;rw [alP,kI (fun (x:Int)=>∃i:Nat,x=i/\i<=xZ l e) (fun (x:Int)=>l.length-x.toNat) (fun _=>((xZ l e:Nat):Int)) (fun self x ⟨i,h1,h2⟩ hs=>by
  subst h1
  by_cases hi:i<l.length
  ·have hy:=aT hi
   have qC:=aut h2 hy
   simp only [show ((i:Int)<(l.length:Int)) from by omega,decide_true,ai]
   simp only [aH hi,hy,ae,XA,bV (show i<maxLen from by omega),qC]
   by_cases bU:i<xZ l e
   ·rw [ak bU,ai]
    exact hs _ ⟨i+1,rfl,bU⟩ (by simp;omega)
   ·rw [aA bU,ax]
    have:i=xZ l e:=by omega
    rw [<-this]
  ·have:i=l.length:=by omega
   have h3:xZ l e=i:=by omega
   rw [h3,this]
   simp) (n:=BIG) (x:=0) (by simp [BIG];omega) ⟨0,rfl,by omega⟩]
 simp only [ae,iB,rR,tu];rw [ak (by omega),ai,ak (by omega),ai,ak (by simp;omega),ai,ak (by simp;omega),ai,ai,ak (by omega),ai,ak (by simp;omega),ai];congr 3;rw [RI];simp
def fM {S α:Type} (st:S->α->ah S):S->aa α->ah S
 | s,[]=>some s
 | s,y::l=>(st s y).bind fun s'=>fM st s' l
theorem vR {α S B:Type} (a:aa α) (hl:a.length<18446744073709551616) {F:(S × Int->ah (S ⊕ B))->S × Int->ah (S ⊕ B)} (I:Nat->S->Prop) (st:S->α->ah S) (b:B) {s0:S} (h0:I 0 s0)
  (hI:∀i s y s',a[i]?=some y->I i s->st s y=some s'->I (i+1) s')
  (hF:∀self s (i:Nat) y,a[i]?=some y->I i s->F self (s,(i:Int))=match st s y with
   | some s'=>self (s',((i+1:Nat):Int))
   | none=>some (.inr b))
  (hE:∀self s,I a.length s->F self (s,(a.length:Int))=some (.inl s)):aK BIG F (s0,0)=some (match fM st s0 a with
   | some s=>.inl s
   | none=>.inr b):=by
 have:=kI (F:=F) (fun x=>∃i:Nat,x.2=i/\i<=a.length/\I i x.1) (fun x=>a.length-x.2.toNat) (fun x=>match fM st x.1 (a.drop x.2.toNat) with
   | some s=>.inl s
   | none=>.inr b) (fun self x ⟨i,h1,h2,h3⟩ hs => ?_) (n:=BIG) (x:=(s0,0)) (by simp;exact hl) ⟨0,rfl,by simp,h0⟩
 ·simpa using this
 ·obtain ⟨s,j⟩:=x;simp only at h1 h2 h3;subst h1;by_cases hi:i<a.length
  ·have hy:=aT hi;rw [hF self s i a[i] hy h3];simp only [iB];rw [u6 hi];simp only [fM];cases gU:st s a[i] with
   | none=>rfl
   | some s'=>
    simp only [ae];rw [hs _ ⟨i+1,rfl,hi,hI _ _ _ _ hy h3 gU⟩ (by simp;omega)];simp
  ·have:i=a.length:=by omega
   subst this;rw [hE self s h3];simp [fM]
def Cg (out:aa Ed) (e:Ed):ah (aa Ed):=if e∈out then none else some (ins out e)
theorem XB {out s':aa Ed} {e:Ed} (h:Cg out e=some s'):e∉out/\s'=ins out e:=by
 unfold Cg at h;split at h
 ·cases h
 ·cases h;exact ⟨by assumption,rfl⟩
theorem aod:∀{A s s':aa Ed},fM Cg s A=some s'->A.Nodup/\(∀x,x∈A->x∉s)/\(∀x,x∈s'↔x∈s\/x∈A)/\(uG s->uG s')/\s'.length<=s.length+A.length
 | [],s,s',h=>by
  simp only [fM,aO] at h;subst h;exact ⟨List.nodup_nil,by simp,by simp,id,by simp⟩
 | e::A,s,s',h=>by
  simp only [fM,Cq] at h;obtain ⟨s1,h1,h2⟩:=h;obtain ⟨aZ,rfl⟩:=XB h1;obtain ⟨k1,k2,k3,k4,k5⟩:=aod h2;refine ⟨nP.2 ⟨fun hh=>k2 e hh (mP.2 (.inl rfl)),k1⟩,fun x hx => ?_,fun x => ?_,fun hs=>k4 (acP hs),?_⟩
  ·rcases a_.1 hx with rfl|hx
   ·exact aZ
   ·exact fun hh=>k2 x hx (mP.2 (.inr hh))
  ·rw [k3,mP,a_];constructor
   ·rintro ((h|h)|h)
    ·exact .inr (.inl h)
    ·exact .inl h
    ·exact .inr (.inr h)
   ·rintro (h|h|h)
    ·exact .inl (.inr h)
    ·exact .inl (.inl h)
    ·exact .inr h
  ·have:=az2 s e;simp only [bI];omega
theorem ayq:∀{A s:aa Ed},A.Nodup->(∀x,x∈A->x∉s)->∃s',fM Cg s A=some s'
 | [],s,_,_=>⟨s,rfl⟩
 | e::A,s,h,h'=>by
  have hn:=nP.1 h;have h1:Cg s e=some (ins s e):=by unfold Cg;rw [if_neg (h' e (by simp))]
  obtain ⟨s',hs⟩:=ayq (A:=A) (s:=ins s e) hn.2 fun x hx hh=>by
   rcases mP.1 hh with rfl|hh
   ·exact hn.1 hx
   ·exact h' x (by simp [hx]) hh
  exact ⟨s',by simp only [fM,h1,ae];exact hs⟩
theorem aBT (n:Int):bits .and .i64 n 255=n % 256:=by
 have aGr:(BitVec.ofInt 64 255).toNat=2 ^ 8-1:=by decide
 have key:(BitVec.ofInt 64 n &&& BitVec.ofInt 64 255).toNat=(n % ((2 ^ 64:Nat):Int)).toNat % 2 ^ 8:=by
  rw [BitVec.toNat_and,BitVec.toNat_ofInt,aGr,Nat.and_two_pow_sub_one_eq_mod]
 show IntKind.i64.wrap ((BitVec.ofInt 64 n &&& BitVec.ofInt 64 255).toNat:Nat)=n % 256;rw [key,IntKind.wrap_i64];omega
abbrev Bq:=List Int × Int × Int
def ky (c:Bq):Prop:=c.1.length<=1048576/\0<=c.2.1/\c.2.1<=c.1.length
theorem x_ (c:Bq) (hc:ky c):∃r c',l_ c=some (r,c')/\ky c'/\0<=r/\r<=255:=by
 have e:l_ c=KY BIG c:=rfl;obtain ⟨h1,h2,h3⟩:=hc;rw [e,apK,aA (by decide),ax,aA (by decide),ax];simp only [aBT];by_cases h:c.2.1<c.1.length
 ·rw [ak h,ai,bW h2 h,aT (by omega),ae,ae];refine ⟨_,_,rfl,⟨h1,?_,?_⟩,Int.emod_nonneg _ (by decide),by omega⟩
  ·show 0<=IntKind.wrap .i64 (c.2.1+1);rw [wr (by omega) (by omega)];omega
  ·show IntKind.wrap .i64 (c.2.1+1)<=_;rw [wr (by omega) (by omega)];show c.2.1+1<=(c.1.length:Int)
   omega
 ·rw [aA h,ax,ae];exact ⟨_,_,rfl,⟨h1,h2,h3⟩,Int.emod_nonneg _ (by decide),by omega⟩
theorem jl (c:Bq) (n:Int) (hc:ky c) (hn:n<=1000000):∃r c',fH (c,n)=some (r,c')/\ky c'/\0<=r/\(0<n->r<n)/\(n<=0->r=0):=by
 have e:fH (c,n)=Ig BIG (c,n):=rfl;rw [e,ala];by_cases h0:n<=0
 ·rw [ak h0];exact ⟨0,c,rfl,hc,by omega,by omega,fun _=>rfl⟩
 ·rw [aA h0,ax];obtain ⟨r1,c1,k1,o1,a1,b1⟩:=x_ c hc;by_cases h1:n<=256
  ·rw [ak h1,ai,k1,ae,aA (by omega),ax];refine ⟨_,_,rfl,o1,Int.tmod_nonneg _ a1,fun _ => ?_,by omega⟩;show Int.tmod r1 n<n;exact Int.tmod_lt_of_pos _ (by omega)
  ·rw [aA h1,ax,k1,ae];obtain ⟨r2,c2,k2,o2,a2,b2⟩:=x_ c1 o1;obtain ⟨r3,c3,k3,o3,a3,b3⟩:=x_ c2 o2;obtain ⟨r4,c4,k4,o4,a4,b4⟩:=x_ c3 o3;simp only [k2,k3,k4,ae];rw [aA (by omega),ax];refine ⟨_,_,rfl,o4,?_,fun _=>Int.tmod_lt_of_pos _ (by omega),by omega⟩;refine Int.tmod_nonneg _ ?_;rw [wr (n:=r1*16777216) (by omega) (by omega),wr (n:=r2*65536) (by omega) (by omega),wr (n:=r3*256) (by omega) (by omega),wr (n:=r1*16777216+r2*65536) (by omega) (by omega),wr (n:=r1*16777216+r2*65536+r3*256) (by omega) (by omega),wr (by omega) (by omega)];omega
def GrOk (n:Int) (es:aa Ed):Prop:=2<=n/\n<=12/\uG es/\(∀e,e∈es->eG n e=true)
theorem Q_ {n:Int} {es:aa Ed} (h:GrOk n es) (hl:es.length<=66):mG n es=true:=by
 unfold mG;rw [if_pos]
 ·rw [decide_eq_true_eq];omega
 ·intro i hi;have hy:=aT hi;cases i with
  | zero=>rw [aq4 hy];exact h.2.2.2 _ (nM _)
  | succ j=>
   have hj:=aT (show j<es.length by omega);rw [aq5 hy hj,h.2.2.2 _ (nM _),dZ];exact RH.1 h.2.2.1 j (j+1) (by omega) (by omega) (by omega)
theorem abf (n:Int) (es:aa Ed) (e:Ed) (hl:es.length<=maxLen):CV ((n,es),e)=some (decide (e∈es),()):=by
 show LD BIG _=_;rw [aqj,Bp _ _ hl];rfl
theorem abg (n:Int) (es:aa Ed) (e:Ed) (hl:es.length<=maxLen):Da ((n,es),e)=some (decide (e∈es),()):=by
 show Mj BIG _=_;rw [aqV,MC _ _ hl];rfl
theorem Ra (a:aa Int) (ha:a.length<=1048576):∃c,wm a=some (c,())/\ky c:=by
 have hm:maxLen=9223372036854775807:=by decide
 have e:wm a=OP BIG a:=rfl;rw [e,atp];have:=p_ (F:=fun (self1:Int × Int->ah (Int)) (x0:Int × Int)=>
  Option.bind (bif decide (x0.2<(a.length:Int)) then
   some (decide (x0.2<(4000:Int)))
   else some false:ah (Bool)) fun x2=>
  bif x2 then
   bnd a.length x0.2 fun n3=>
   Option.bind a[n3]? fun y4=>
   self1 (bits .and .i64 (IntKind.wrap .i64 ((IntKind.wrap .i64 ((IntKind.wrap .i64 (x0.1*(131:Int)))+(IntKind.wrap .i64 (y4))))+(7:Int))) (1073741823:Int),IntKind.wrap .i64 (x0.2+(1:Int)))
  else some x0.1) (fun x=>∃i:Nat,x.2=i/\i<=a.length) (fun x=>a.length-x.2.toNat) (fun _ _=>True) (fun self x ⟨i,h1,h2⟩ hs => ?_) (n:=BIG) (x:=(IntKind.wrap .i64 ((13501:Int)+(a.length:Int)),0)) (by simp [BIG];omega) ⟨0,rfl,by omega⟩
 ·obtain ⟨b,hb,_⟩:=this;rw [hb];exact ⟨_,rfl,ha,Int.le_refl _,by simp⟩
 ·obtain ⟨z,j⟩:=x;simp only at h1;subst h1;by_cases h:i<a.length
  ·by_cases h':(i:Int)<4000
   ·simp only [show ((i:Int)<(a.length:Int)) from by omega,h',decide_true,ai,ae];rw [aH h,aT h,ae,bV (by omega)];exact hs _ ⟨i+1,rfl,h⟩ (by simp;omega)
   ·simp only [show ((i:Int)<(a.length:Int)) from by omega,h',decide_true,decide_false,ai,ax,ae];exact ⟨_,rfl,trivial⟩
  ·simp only [show ¬((i:Int)<(a.length:Int)) from by omega,decide_false,ax,ae];exact ⟨_,rfl,trivial⟩
def del (es:aa Ed) (e:Ed):aa Ed:=es.filter (fun y=>!decide (y=e))
theorem ajD (a b:aa Ed) (ha:a.length<=maxLen):ER (a,b)=some (decide (a=b),()):=by
 show EQ BIG _=_;rw [ai3];by_cases hl:a.length=b.length
 ·rw [ak (by omega),bC,ax,ajy a b ha hl false]
  ·by_cases h:a=b<;>simp [h]
  ·intro self i x y hx hy;have hi:=(bf hx).1;simp only [show ((i:Int)<(a.length:Int)) from by omega,decide_true,ai];rw [aH hi,hx,ae,aH (by omega),hy,ae,bV (by omega)];obtain ⟨x1,x2⟩:=x;obtain ⟨y1,y2⟩:=y;by_cases h1:x1=y1<;>by_cases h2:x2=y2<;>simp [h1,h2]
  ·intro self;simp
 ·rw [aA (by omega),ib,ai,aA (fun h=>hl (by rw [h]))]
theorem o9 {es:aa Ed} {e x:Ed}:x∈del es e↔x∈es/\x≠e:=by simp [del]
theorem az3 {es:aa Ed} {e:Ed} (h:uG es):uG (del es e):=h.filter _
theorem GrOk.ins {n:Int} {es:aa Ed} {e:Ed} (h:GrOk n es) (he:eG n e=true):GrOk n (ins es e):=⟨h.1,h.2.1,acP h.2.2.1,fun x hx=>by
 rcases mP.1 hx with rfl|hx
 ·exact he
 ·exact h.2.2.2 x hx⟩
theorem GrOk.del {n:Int} {es:aa Ed} {e:Ed} (h:GrOk n es):GrOk n (del es e):=⟨h.1,h.2.1,az3 h.2.2.1,fun x hx=>h.2.2.2 x (o9.1 hx).1⟩
theorem aBU (a:aa Int):ah_ a=some (decide ((1048576:Int)<(a.length:Int)),()):=aBS BIG a
theorem aq6 (c:Bq) (n:Int) (hc:ky c) (hn:n<=1000000):∃b c',xU (c,n)=some (b,c')/\ky c':=by
 have e:xU (c,n)=L_ BIG (c,n):=rfl;obtain ⟨r,c',k,o,_⟩:=jl c n hc hn;rw [e,aqJ,k];exact ⟨_,_,rfl,o⟩
theorem uV (c:Bq) (l:aa Int) (hc:ky c) (h0:0<l.length) (hl:l.length<=1000000):∃b c',lJ (c,l)=some (b,c')/\ky c':=by
 have e:lJ (c,l)=BI BIG (c,l):=rfl;obtain ⟨r,c',k,o,a,b,_⟩:=jl c l.length hc (by omega);have b:=b (by omega);rw [e,af0,k,ae,bW a b,aT (by omega)];exact ⟨_,_,rfl,o⟩
theorem az4 (c:Bq) (hc:ky c):∃n c',Sw c=some (n,c')/\ky c'/\2<=n/\n<=12:=by
 have e:Sw c=acu BIG c:=rfl;obtain ⟨r,c',k,o,a,b,_⟩:=jl c 11 hc (by omega);have b:=b (by omega);rw [e,azL,k,ae,wr (by omega) (by omega)];exact ⟨_,_,rfl,o,by omega,by omega⟩
theorem auu (n:Int):Qz n=some (if aY n 1 12 then (n,[],true) else (0,[],false),()):=by
 show Qy BIG _=_;rw [aui,jd,ae];cases aY n 1 12<;>rfl
theorem auv (n:Int):OW n=some (if aY n 1 12 then (n,[],true) else (0,[],false),()):=by
 show OV BIG _=_;rw [atr,dM,ae];cases aY n 1 12<;>rfl
theorem ame (a b:Int):I6 (a,b)=some (if aY a 1 3&&aY b 1 12 then (a,b,[],0,false,[],[],true) else (0,0,[],0,false,[],[],false),()):=by
 show I5 BIG _=_;rw [al2,auu,jd];cases aY a 1 3<;>cases aY b 1 12<;>rfl
theorem VN (a b:Int):Ag (a,b)=some (if aY a 1 3&&aY b 1 12 then (a,b,[],0,false,[],[],true) else (0,0,[],0,false,[],[],false),()):=by
 show Ih BIG _=_;rw [alc,auv,dM];cases aY a 1 3<;>cases aY b 1 12<;>rfl
abbrev aD:=Int × Int × Int × Bool
theorem auw (E:aa aD) (hE:E.length<=4294967295) {n:Int} {F:((Int × aa (Int × Int)) × Int->ah (Int × aa (Int × Int)))->(Int × aa (Int × Int)) × Int->ah (Int × aa (Int × Int))}
  (hF:∀self out (i:Nat) y,E[i]?=some y->F self ((n,out),(i:Int))=bif decide (out.length+1<=4294967296) then self ((n,out++[(y.1,y.2.1)]),((i+1:Nat):Int)) else none)
  (hE':∀self x,F self (x,(E.length:Int))=some x):aK BIG F ((n,[]),0)=some (n,E.map fun x=>(x.1,x.2.1)):=by
 rw [jY E (by omega) (fun i (s:Int × aa (Int × Int))=>s.1=n/\s.2.length=i) (fun s y=>(s.1,s.2++[(y.1,y.2.1)])) id ⟨rfl,rfl⟩ (fun i s y _ h=>⟨h.1,by simp [h.2]⟩)]
 ·have:∀(l:aa aD) (s:Int × aa (Int × Int)),l.foldl (fun s y=>(s.1,s.2++[(y.1,y.2.1)])) s=(s.1,s.2++l.map fun x=>(x.1,x.2.1)):=by
   intro l;induction l with
   | nil=>intro s;simp
   | cons y l ih=>intro s;rw [gK,ih];simp
  rw [this];simp
 ·rintro self ⟨m,out⟩ i y hy ⟨rfl,h2⟩;simp only at h2;have hi:=(bf hy).1;rw [hF self out i y hy,ak (by omega),ai]
 ·intro self s _;exact hE' self s
theorem Dc (n:Int) (E:aa aD) (hE:E.length<=1048576):mg (n,E)=some ((n,E.map fun x=>(x.1,x.2.1)),()):=by
 have hm:maxLen=9223372036854775807:=by decide
 show Ma BIG _=_;rw [aqM];dsimp only;rw [auw E (by omega)]
 ·rfl
 ·intro self out i y hy;have hi:=(bf hy).1;simp only [show ((i:Int)<(E.length:Int)) from by omega,decide_true,ai];rw [aH hi,hy,ae,bV (by omega)];rfl
 ·intro self x;simp
theorem yc (n:Int) (E:aa aD) (hE:E.length<=1048576):mf (n,E)=some ((n,E.map fun x=>(x.1,x.2.1)),()):=by
 have hm:maxLen=9223372036854775807:=by decide
 show Li BIG _=_;rw [ap3];dsimp only;rw [auw E (by omega)]
 ·rfl
 ·intro self out i y hy;have hi:=(bf hy).1;simp only [show ((i:Int)<(E.length:Int)) from by omega,decide_true,ai];rw [aH hi,hy,ae,aH hi,hy,ae,bV (by omega)];rfl
 ·intro self x;simp
theorem awR (x0 x1:Int) (x2:aa aD) (x3:Int) (x4:Bool) (x5:aa Ed) (x6:aa Int) (hE:x2.length<=1048576):Mo (x0,x1,x2,x3,x4,x5,x6)=some (x2.map fun x=>(x.1,x.2.1),()):=by
 show Xu BIG _=_;rw [awP];dsimp only;rw [Dc _ _ hE];rfl
theorem aoe (x0:Int) (x1:aa Int) (x2:aa Ed) (x3:aa (aa Int)) (x4:aa Int) (x5 x6 x7 x8 x9 x10 x11:Int) (x12:aa Ed) (x13:Int) (x14:aa (Int × Int × Int × Int × Int × Int)):SA (x0,x1,x2,x3,x4,x5,x6,x7,x8,x9,x10,x11,x12,x13,x14)=some (!decide (x9=0),()):=azU BIG _
theorem acR (x0:Int) (x1:aa Int) (x2:aa Ed) (x3:aa (aa Int)) (x4:aa Int) (x5 x6 x7 x8 x9 x10 x11:Int) (x12:aa Ed) (x13:Int) (x14:aa (Int × Int × Int × Int × Int × Int)):Dm (x0,x1,x2,x3,x4,x5,x6,x7,x8,x9,x10,x11,x12,x13,x14)=some (!decide (x9=0),()):=azN BIG _
theorem rangeLoop {S B:Type} (n:Nat) (hl:n<18446744073709551616) {F:(S × Int->ah B)->S × Int->ah B} (I:Nat->S->Prop) (st:Nat->S->S) (R:S->B) {s0:S} (h0:I 0 s0)
  (hI:∀i s,i<n->I i s->I (i+1) (st i s)) (hF:∀self s (i:Nat),i<n->I i s->F self (s,(i:Int))=self (st i s,((i+1:Nat):Int)))
  (hE:∀self s,I n s->F self (s,(n:Int))=some (R s)):aK BIG F (s0,0)=some (R ((List.range n).foldl (fun s i=>st i s) s0)):=by
 have hr:∀{i y:Nat},(List.range n)[i]?=some y->i<n/\y=i:=by
  intro i y h;have hi:=(bf h).1;rw [sU] at hi;rw [RN hi] at h;cases h;exact ⟨hi,rfl⟩
 refine jY (List.range n) (by rw [sU];exact hl) I (fun s i=>st i s) R h0 (fun i s y hy hi => ?_) (fun self s i y hy hi => ?_) (fun self s hs => ?_)
 ·obtain ⟨h1,rfl⟩:=hr hy;exact hI _ _ h1 hi
 ·obtain ⟨h1,rfl⟩:=hr hy;exact hF _ _ _ h1 hi
 ·rw [sU] at hs ⊢;exact hE _ _ hs
theorem aux {α:Type} (f:Nat->α) (n:Nat) (s:aa α):(List.range n).foldl (fun s i=>s++[f i]) s=s++(List.range n).map f:=by
 induction n with
 | zero=>simp
 | succ n ih=>rw [List.range_succ,pR,ih];simp
theorem ajE (n:Nat) (hn:n<=1000000) {F:(aa Int × Int->ah (aa Int))->aa Int × Int->ah (aa Int)}
  (hF:∀self out (i:Nat),i<n->out.length=i->F self (out,(i:Int))=self (out++[(i:Int)],((i+1:Nat):Int)))
  (hE:∀self out,F self (out,(n:Int))=some out):aK BIG F ([],0)=some (qa n):=by
 rw [rangeLoop n (by omega) (fun i (s:aa Int)=>s.length=i) (fun i s=>s++[(i:Int)]) id rfl (fun i s _ h=>by simp [h]) (fun self s i hi h=>hF self s i hi h) (fun self s _=>hE self s),aux];rfl
theorem ME (n:Nat) (hn:n<=1000000):zF (n:Int)=some (qa n,()):=by
 have hm:maxLen=9223372036854775807:=by decide
 show Xb BIG _=_;rw [awu,ajE n hn]
 ·rfl
 ·intro self out i hi hl;simp only [show ((i:Int)<(n:Int)) from by omega,decide_true,ai];rw [ak (by simp;omega),ai,bV (by omega)]
 ·intro self out;simp
theorem aq7 (E:aa (Int × Int)) (n:Nat):∀l:aa Int,(List.range n).foldl (fun s _=>lrnd E s) l=Mv E n l:=by
 have:∀(m:Nat) (l:aa Int),Mv E (m+1) l=lrnd E (Mv E m l):=by
  intro m;induction m with
  | zero=>intro l;rfl
  | succ m ih=>intro l;show Mv E (m+1) (lrnd E l)=_;rw [ih];rfl
 induction n with
 | zero=>intro l;rfl
 | succ n ih=>intro l;rw [List.range_succ,pR,ih,this];rfl
theorem Fv (n:Nat) (E:aa (Int × Int)) (hn:n<=12) (hE:o8 n E) (hl:E.length<=4611686018427387904):xy ((n:Int),E)=some (labs n E,()):=by
 have hm:maxLen=9223372036854775807:=by decide
 show Ec BIG _=_;rw [aie,ajE n (by omega)]
 ·rw [ae,rangeLoop n (by omega) (fun i (s:aa Int)=>s.length=n) (fun _ s=>lrnd E s) id (vQ n) (fun i s _ h=>by rw [ajB];exact h)]
  ·rw [aq7,aq3 hE];rfl
  ·intro self s i hi hs;simp only [show ((i:Int)<(n:Int)) from by omega,decide_true,ai];rw [jY E (by omega) (fun _ (s:aa Int)=>s.length=n) rlE id hs (fun i s y _ h=>by rw [aoa];exact h)]
   ·rw [ae,bV (by omega)];rfl
   ·intro self s i y hy hs;have hi:=(bf hy).1;obtain ⟨h1,h2,h3,h4⟩:=hE y (eZ hy);have i1:y.1.toNat<s.length:=by omega
    have i2:y.2.toNat<s.length:=by omega
    simp only [show ((i:Int)<(E.length:Int)) from by omega,decide_true,ai];rw [bV (by omega),aH hi,hy,ae,bW h1 (by omega),getD_at i1,ae,aH hi,hy,ae,bW h3 (by omega),getD_at i2,ae];unfold rlE;simp only;by_cases c1:s.getD y.1.toNat 0<s.getD y.2.toNat 0
    ·rw [ak c1,ai,aH hi,hy,ae,bW h3 (by omega),getD_at i2,ae,ae,aA (by omega),ax,if_pos c1,if_neg (by omega)];rfl
    ·rw [aA c1,ax,ae,if_neg c1];by_cases c2:s.getD y.2.toNat 0<s.getD y.1.toNat 0
     ·rw [ak c2,ai,aH hi,hy,ae,bW h1 (by omega),getD_at i1,ae,if_pos c2];rfl
     ·rw [aA c2,ax,if_neg c2];rfl
   ·intro self s _;simp
  ·intro self s _;simp
 ·intro self out i hi hl;simp only [show ((i:Int)<(n:Int)) from by omega,decide_true,ai];rw [ak (by simp;omega),ai,bV (by omega)]
 ·intro self out;simp
abbrev Hd:=Int × List Int × List (Int × Int) × List (List Int) × List Int × Int × Int × Int × Int × Int × Int × Int × List (Int × Int) × Int × List (Int × Int × Int × Int × Int × Int)
def Jd (n k:Nat):aa Int:=(List.range n).map fun (i:Nat)=>1+Int.tmod (i:Int) k
def hdN (n k:Nat):Hd:=((n:Int),Jd n k,[],List.replicate k (qa n),List.replicate k 0,0,0,0,0,0,0,0,[],0,[])
theorem ajF (f:Nat->Int) (n:Nat) (s:Hd):(List.range n).foldl (fun (s:Hd) i=>(s.1,s.2.1++[f i],s.2.2)) s=(s.1,s.2.1++(List.range n).map f,s.2.2):=by
 induction n with
 | zero=>simp
 | succ n ih=>rw [List.range_succ,pR,ih];simp
theorem ajG (L:aa Int) (n:Nat) (s:Hd):(List.range n).foldl (fun (s:Hd) i=>(s.1,s.2.1,s.2.2.1,s.2.2.2.1++[L],s.2.2.2.2)) s=(s.1,s.2.1,s.2.2.1,s.2.2.2.1++List.replicate n L,s.2.2.2.2):=by
 induction n with
 | zero=>simp
 | succ n ih=>rw [List.range_succ,pR,ih,List.replicate_succ'];simp
theorem auy (L:aa Int) (n:Nat) (s:Hd):(List.range n).foldl (fun (s:Hd) i=>(s.1,s.2.1,s.2.2.1,s.2.2.2.1++[L],s.2.2.2.2.1++[0],s.2.2.2.2.2)) s=(s.1,s.2.1,s.2.2.1,s.2.2.2.1++List.replicate n L,s.2.2.2.2.1++List.replicate n 0,s.2.2.2.2.2):=by
 induction n with
 | zero=>simp
 | succ n ih=>rw [List.range_succ,pR,ih,List.replicate_succ',List.replicate_succ'];simp
theorem ajH {i k:Nat} (hk:1<=k) (om:k<=3):0<=Int.tmod (i:Int) k/\Int.tmod (i:Int) k<3:=by
 rw [Int.tmod_eq_emod_of_nonneg (by omega)];have h1:=Int.emod_nonneg (i:Int) (show (k:Int)≠0 from by omega);have h2:=Int.emod_lt_of_pos (i:Int) (show (0:Int)<(k:Int) from by omega);omega
theorem abh (n k:Int):∃r:Hd × Bool,r=(if aY n 1 12&&aY k 1 3 then (hdN n.toNat k.toNat,true) else ((0,[],[],[],[],0,0,0,0,0,0,0,[],0,[]),false)) /\
  CX (n,k)=some ((r.1.1,r.1.2.1,r.1.2.2.1,r.1.2.2.2.1,r.1.2.2.2.2.1,r.1.2.2.2.2.2.1,r.1.2.2.2.2.2.2.1,r.1.2.2.2.2.2.2.2.1,r.1.2.2.2.2.2.2.2.2.1,r.1.2.2.2.2.2.2.2.2.2.1,r.1.2.2.2.2.2.2.2.2.2.2.1,r.1.2.2.2.2.2.2.2.2.2.2.2.1,r.1.2.2.2.2.2.2.2.2.2.2.2.2.1,r.1.2.2.2.2.2.2.2.2.2.2.2.2.2.1,r.1.2.2.2.2.2.2.2.2.2.2.2.2.2.2,r.2),()) /\
  tL (n,k)=some ((r.1.1,r.1.2.1,r.1.2.2.1,r.1.2.2.2.1,r.1.2.2.2.2.1,r.1.2.2.2.2.2.1,r.1.2.2.2.2.2.2.1,r.1.2.2.2.2.2.2.2.1,r.1.2.2.2.2.2.2.2.2.1,r.1.2.2.2.2.2.2.2.2.2.1,r.1.2.2.2.2.2.2.2.2.2.2.1,r.1.2.2.2.2.2.2.2.2.2.2.2.1,r.1.2.2.2.2.2.2.2.2.2.2.2.2.1,r.1.2.2.2.2.2.2.2.2.2.2.2.2.2.1,r.1.2.2.2.2.2.2.2.2.2.2.2.2.2.2,r.2),()):=by
 have hm:maxLen=9223372036854775807:=by decide
 refine ⟨_,rfl,?_⟩;have hi:CX (n,k)=LP BIG (n,k):=rfl;have hs:tL (n,k)=CF BIG (n,k):=rfl;rw [hi,hs,aqw,Y1,jd,dM,jd,dM];simp only [ae];cases hn:aY n 1 12 with
 | false=>exact ⟨rfl,rfl⟩
 | true=>
  simp only [bC,ax,ae];cases hk:aY k 1 3 with
  | false=>exact ⟨rfl,rfl⟩
  | true=>
   rw [aW] at hn hk;obtain ⟨N,rfl⟩:∃N:Nat,n=N:=⟨n.toNat,by omega⟩
   obtain ⟨K,rfl⟩:∃K:Nat,k=K:=⟨k.toNat,by omega⟩
   simp only [bC,ax,iB,wM,if_true];have g1:∀(s0:Hd),s0.2.1=[]->∀F:(Hd × Int->ah Hd)->Hd × Int->ah Hd,
     (∀self (s:Hd) (i:Nat),i<N->s.2.1.length=i->F self (s,(i:Int))=self ((s.1,s.2.1++[1+Int.tmod (i:Int) K],s.2.2),((i+1:Nat):Int)))->(∀self s,F self (s,(N:Int))=some s) ->
     aK BIG F (s0,0)=some (s0.1,Jd N K,s0.2.2):=by
    intro s0 h0 F hF hE;rw [rangeLoop N (by omega) (fun i (s:Hd)=>s.2.1.length=i) (fun i s=>(s.1,s.2.1++[1+Int.tmod (i:Int) K],s.2.2)) id (by rw [h0];rfl) (fun i s _ h=>by simp [h]) (fun self s i hi h=>hF self s i hi h) (fun self s _=>hE self s),ajF,h0];rfl
   constructor
   ·rw [g1 _ rfl]
    ·rw [ae,rangeLoop K (by omega) (fun i (s:Hd)=>s.2.2.2.1.length=i/\s.2.2.2.2.1.length=i) (fun _ s=>(s.1,s.2.1,s.2.2.1,s.2.2.2.1++[qa N],s.2.2.2.2.1++[0],s.2.2.2.2.2)) id ⟨rfl,rfl⟩ (fun i s _ h=>by simp [h.1,h.2])]
     ·rw [auy];rfl
     ·intro self s i hi ⟨kK,FQ⟩;simp only [show ((i:Int)<(K:Int)) from by omega,decide_true,ai];rw [ME N (by omega),ae,ak (by simp;omega),ai,ak (by simp;omega),ai,bV (by omega)]
     ·intro self s _;simp
    ·intro self s i hi hs;have:=ajH (i:=i) (k:=K) (by omega) (by omega);simp only [show ((i:Int)<(N:Int)) from by omega,decide_true,ai];rw [aA (by omega),ax,wr (by omega) (by omega),ak (by simp;omega),ai,bV (by omega)]
    ·intro self s;simp
   ·rw [ak (by omega),ai,ak (by omega),ai,g1 _ rfl]
    ·rw [ae,rangeLoop K (by omega) (fun i (s:Hd)=>s.2.2.2.1.length=i) (fun _ s=>(s.1,s.2.1,s.2.2.1,s.2.2.2.1++[qa N],s.2.2.2.2)) id rfl (fun i s _ h=>by simp [h])]
     ·rw [ajG];rfl
     ·intro self s i hi kK;simp only [show ((i:Int)<(K:Int)) from by omega,decide_true,ai];rw [Fv N [] (by omega) (fun e he=>by cases he) (by simp),ae,ak (by simp;omega),ai,bV (by omega)];rfl
     ·intro self s _;simp
    ·intro self s i hi hs;have:=ajH (i:=i) (k:=K) (by omega) (by omega);simp only [show ((i:Int)<(N:Int)) from by omega,decide_true,ai];rw [aA (by omega),ax,wr (by omega) (by omega),ak (by simp;omega),ai,bV (by omega)]
    ·intro self s;simp
def jZ (n:Int) (es:aa Ed):Bool:=aY n 1 12&&mG n es
theorem abj (n:Int) (es:aa Ed) (hl:es.length<=1048576):C8 (n,es)=some (jZ n es,()):=by
 show Mc BIG _=_;rw [aqO,jd,Db n es hl];unfold jZ;cases aY n 1 12<;>rfl
theorem abk (n:Int) (es:aa Ed) (hl:es.length<=1048576):CQ (n,es)=some (jZ n es,()):=by
 show Lj BIG _=_;rw [ap5,dM,Az n es hl];unfold jZ;cases aY n 1 12<;>rfl
theorem lw {n:Int} {es:aa Ed} (h:mG n es=true):(∀e,e∈es->eG n e=true)/\uG es/\es.length<=66:=by
 have hl:=j_ h;unfold mG at h;split at h;case isFalse=>cases h
 case isTrue hp=>
 have hc:∀i (h:i+1<es.length),eG n es[i+1]=true/\lsB es[i] es[i+1]=true:=by
  intro i hi;have:=hp (i+1) hi;rw [aq5 (aT hi) (aT (by omega)),aU] at this;exact this
 have h0:∀i (h:i<es.length),eG n es[i]=true:=by
  intro i hi;cases i with
  | zero=>have:=hp 0 hi;rwa [aq4 (aT hi)] at this
  | succ i=>exact (hc i hi).1
 refine ⟨fun e he => ?_,RH.2 fun i j hi hj wI => ?_,hl⟩
 ·obtain ⟨i,hi,rfl⟩:=wJ he;exact h0 i hi
 ·have:∀d (h:i+1+d<es.length),lsB es[i] es[i+1+d]=true:=by
   intro d;induction d with
   | zero=>intro h;exact (hc i h).2
   | succ d ih=>intro h;exact Bo (ih (by omega)) (hc (i+1+d) h).2
  have:=this (j-(i+1)) (by omega);simpa [show i+1+(j-(i+1))=j from by omega] using this
theorem fQ {n:Nat} {e:Ed} (h:eG (n:Int) e=true):0<=e.1/\e.1<n/\0<=e.2/\e.2<n/\e.1<e.2:=by
 simp only [eG,aU,aW,decide_eq_true_eq] at h;omega
theorem az5 {α:Type} (a:aa α) (f:α->α) (hl:a.length<18446744073709551616) {F:(aa α × Int->ah (aa α))->aa α × Int->ah (aa α)}
  (hF:∀self out (i:Nat) y,out.length=a.length->out[i]?=some y->a[i]?=some y->F self (out,(i:Int))=self (out.set i (f y),((i+1:Nat):Int)))
  (hE:∀self out,out.length=a.length->F self (out,(a.length:Int))=some out):aK BIG F (a,0)=some (a.map f):=by
 have:=kI (F:=F) (fun x=>∃i:Nat,x.2=i/\i<=a.length/\x.1=(a.map f).take i++a.drop i) (fun x=>a.length-x.2.toNat) (fun _=>a.map f) (fun self x ⟨i,h1,h2,h3⟩ hs => ?_) (n:=BIG) (x:=(a,0)) (by simp;exact hl) ⟨0,rfl,by simp,by simp⟩
 ·exact this
 ·obtain ⟨out,j⟩:=x;simp only at h1 h3;subst h1;have bP:out.length=a.length:=by rw [h3];simp;omega
  by_cases hi:i<a.length
  ·have hy:=aT hi;have ho:out[i]?=some a[i]:=by
    rw [h3,uZ (by simp;omega)];simp [Nat.min_eq_left (show i<=a.length from by omega)]
   rw [hF self out i a[i] bP ho hy];have e:=agk (a:=a) (t:=a.map f) (i:=i) (z:=f a[i]) (by simp) hi (by simp [hi]);rw [<-h3] at e;exact hs _ ⟨i+1,rfl,hi,e⟩ (by simp;omega)
  ·have:i=a.length:=by omega
   subst this;rw [hE self out bP,h3];simp [RI]
theorem set_self {α:Type} {l:aa α} {i:Nat} {y:α} (h:l[i]?=some y):l.set i y=l:=by
 apply X0;intro j;rw [Cr];split
 ·subst j;have:=(bf h).1;simp [this,h.symm]
 ·rfl
theorem MF (l:aa Int) (a b:Int) (ha:0<=a) (Ht:a<l.length) (hb:0<=b) (cO:b<l.length) (hl:l.length<=1048576) :
  zI (l,a,b)=some (!decide (l.getD a.toNat 0=l.getD b.toNat 0),unE l (a,b)):=by
 have hm:maxLen=9223372036854775807:=by decide
 show Xh BIG _=_;rw [awC,bW ha Ht,getD_at (by omega),ae,bW hb cO,getD_at (by omega),ae];unfold unE;simp only;generalize l.getD a.toNat 0=x;generalize l.getD b.toNat 0=y;by_cases h:x=y
 ·subst h;rw [ak rfl,ai,ajA];rfl
 ·rw [aA h,ax,az5 l (fun z=>if z=(if y > x then y else x) then (if y<x then y else x) else z) (by omega)]
  ·rfl
  ·intro self out i z hlo ho hz;have hi:=(bf hz).1;simp only [show ((i:Int)<(l.length:Int)) from by omega,decide_true,ai];rw [aH (by omega),ho,ae,bV (by omega)];by_cases hc:z=(if y > x then y else x)
   ·rw [ak hc,ai,aH (by omega),ho,ae,if_pos hc];rfl
   ·rw [aA hc,ax,if_neg hc,set_self ho];rfl
  ·intro self out hlo;simp
def tgB (n:Int) (es:aa Ed) (a b:Int):Bool:=jZ n es&&(aY a 0 (n-1)&&(aY b 0 (n-1)&&decide ((labs n.toNat es).getD a.toNat 0=(labs n.toNat es).getD b.toNat 0)))
def MG (n:Int) (es:aa Ed) (e:Ed):Int × aa Ed × Bool:=if jZ n es&&(eG n e && !decide (e∈es)) then (n,ins es e,true) else (0,[],false)
def aq8 (n:Int) (es:aa Ed) (e:Ed):Int × aa Ed × Bool:=if jZ n es&&decide (e∈es) then (n,del es e,true) else (0,[],false)
theorem aq9 (n:Int) (es:aa Ed) (e:Ed) (hl:es.length<=1048576):Mr ((n,es),e)=some (MG n es e,()):=by
 have hm:maxLen=9223372036854775807:=by decide
 show Mq BIG _=_;rw [aqZ,abj n es hl,Q6,abg n es e (by omega),Jc es e hl];unfold MG;cases hg:jZ n es with
 | false=>rfl
 | true=>
  cases he:eG n e with
  | false=>rfl
  | true=>
   by_cases bq:e∈es
   ·rw [ak bq];rfl
   ·simp only [jZ,aU] at hg;rw [aA bq,acQ (lw hg.2).2.1 bq];rfl
theorem aq_ (n:Int) (es:aa Ed) (e:Ed) (hl:es.length<=1048576):LH ((n,es),e)=some (MG n es e,()):=by
 have hm:maxLen=9223372036854775807:=by decide
 show LG BIG _=_;rw [aql,abk n es hl,GZ,abf n es e (by omega),Q9 es e hl];unfold MG;cases hg:jZ n es with
 | false=>rfl
 | true=>
  cases he:eG n e with
  | false=>rfl
  | true=>cases decide (e∈es)<;>rfl
theorem ND (es:aa Ed) (e:Ed) (hl:es.length<=1048576):uR (es,e)=some (del es e,()):=by
 have hm:maxLen=9223372036854775807:=by decide
 show BJ BIG _=_;rw [af3,jY es (by omega) (fun i (c:aa Ed)=>c.length<=i) (fun c y=>if (!decide (y=e)) then c++[y] else c) id (by simp) (fun i c y _ (h:c.length<=i)=>by show List.length (if _ then _ else _)<=_;split<;>(try simp)<;>omega)]
 ·rw [mZ];rfl
 ·intro self c i y hy (hc:c.length<=i);have hi:=(bf hy).1;simp only [show ((i:Int)<(es.length:Int)) from by omega,decide_true,ai];rw [aH hi,hy,ae,bV (by omega)];have hd:(decide (y.1=e.1)&&(decide (y.2=e.2)&&true))=decide (y=e):=by
   obtain ⟨y1,y2⟩:=y;obtain ⟨e1,e2⟩:=e;by_cases h1:y1=e1<;>by_cases h2:y2=e2<;>simp [h1,h2]
  rw [hd];cases decide (y=e) with
  | true=>simp
  | false=>simp [aH hi,hy,show c.length+1<=4294967296 from by omega]
 ·intro self c hc;simp
theorem Ka (es:aa Ed) (e:Ed) (hl:es.length<=1048576):tQ (es,e)=some (del es e,()):=by
 have hm:maxLen=9223372036854775807:=by decide
 show zO BIG _=_;rw [acK,jY es (by omega) (fun i (c:aa Ed)=>c.length<=i) (fun c y=>if (!decide (y=e)) then c++[y] else c) id (by simp) (fun i c y _ (h:c.length<=i)=>by show List.length (if _ then _ else _)<=_;split<;>(try simp)<;>omega)]
 ·rw [mZ];rfl
 ·intro self c i y hy (hc:c.length<=i);have hi:=(bf hy).1;simp only [show ((i:Int)<(es.length:Int)) from by omega,decide_true,ai];rw [aH hi,hy,ae,bV (by omega)];have hd:(decide (y.1=e.1)&&(decide (y.2=e.2)&&true))=decide (y=e):=by
   obtain ⟨y1,y2⟩:=y;obtain ⟨e1,e2⟩:=e;by_cases h1:y1=e1<;>by_cases h2:y2=e2<;>simp [h1,h2]
  rw [hd];cases decide (y=e) with
  | true=>simp
  | false=>simp [show c.length+1<=4294967296 from by omega]
 ·intro self c hc;simp
def gJ (a b:Int):Ed:=if a<b then (a,b) else (b,a)
theorem auz (i o a b:Int):Qi (i,o,a,b)=some (gJ a b,()):=by
 show Qh BIG _=_;rw [aue];unfold gJ;dsimp only;by_cases h:a<b
 ·rw [if_neg (by omega),if_pos (by omega),if_pos h]
 ·rw [if_neg h];by_cases h':b<a
  ·rw [if_pos h',if_neg (by omega)]
  ·rw [if_neg h',if_neg (by omega),show a=b from by omega]
theorem ara (i o a b:Int):Lg (i,o,a,b)=some (gJ a b,()):=by
 show Lf BIG _=_;rw [ap1];unfold gJ;dsimp only;by_cases h:a<b
 ·rw [ak h,ai,if_pos h]
 ·rw [aA h,ax,if_neg h]
theorem Fx (es:aa Ed) (hl:es.length<=1048576):sF es=some (es,()):=by
 show EE BIG _=_;rw [aiH,ak (by omega)];rfl
theorem ajI (b:Bool):L8 b=some (if b then 1 else 2,()):=by
 show Xi BIG _=_;rw [awE];cases b<;>rfl
def yO (n:Int) (es:aa Ed) (o a b:Int):Int × aa Ed × Int:=
 if aY o 1 4&&(decide (0<=a)&&decide (a<n)) then
  if o=4 then (n,es,if aY b 1 3 then 1 else 3)
  else if (decide (0<=b)&&decide (b<n)) && !(decide (a=b) && !decide (o=3)) then
   if o=3 then (n,es,if tgB n es a b then 1 else 2)
   else
    let r:=if o=2 then aq8 n es (gJ a b) else MG n es (gJ a b)
    if r.2.2 then (r.1,r.2.1,1) else (n,es,2)
  else (n,es,3)
 else (n,es,3)
theorem ayr {α S T X B:Type} (a:aa α) (hl:a.length<18446744073709551616) {F:(X->ah (T ⊕ B))->X->ah (T ⊕ B)} (mk:S->Int->X) (I:Nat->S->Prop) (st:S->α->ah S) (R:S->T) (b:B) {s0:S} (h0:I 0 s0)
  (hI:∀i s s' y,a[i]?=some y->I i s->st s y=some s'->I (i+1) s') (hF:∀self s (i:Nat) y,a[i]?=some y->I i s->F self (mk s (i:Int))=match st s y with|some s'=>self (mk s' ((i+1:Nat):Int))|none=>some (.inr b))
  (hE:∀self s,I a.length s->F self (mk s (a.length:Int))=some (.inl (R s))):aK BIG F (mk s0 0)=some (match fM st s0 a with|some s=>.inl (R s)|none=>.inr b):=by
 have key:∀(k n i:Nat) (s:S),a.length-i<=k->k<n->i<=a.length->I i s->it F n (mk s (i:Int))=some (match fM st s (a.drop i) with|some s=>.inl (R s)|none=>.inr b):=by
  intro k;induction k with
  | zero=>
   intro n i s hk hn hi hs;obtain ⟨m,rfl⟩:∃m,n=m+1:=⟨n-1,by omega⟩
   have:i=a.length:=by omega
   subst this;show F (it F m) _=_;rw [hE _ _ hs,List.drop_length];rfl
  | succ k ih=>
   intro n i s hk hn hi hs;obtain ⟨m,rfl⟩:∃m,n=m+1:=⟨n-1,by omega⟩
   show F (it F m) _=_;by_cases jB:i<a.length
   ·have hy:=aT jB;rw [hF _ _ _ _ hy hs,u6 jB];cases gU:st s a[i] with
    | none=>simp only [fM,gU,Option.bind_none]
    | some s'=>
     simp only;rw [ih m (i+1) _ (by omega) (by omega) jB (hI _ _ _ _ hy hs gU)];simp only [fM,gU,ae]
   ·have:i=a.length:=by omega
    subst this;rw [hE _ _ hs,List.drop_length];rfl
 have:=key a.length BIG 0 s0 (by omega) (by simpa [BIG] using hl) (by omega) h0;show it F BIG (mk s0 0)=_;simpa using this
def by8 (n:Int):UInt8:=UInt8.ofNat (n % 256).toNat
def vF:Nat->Nat->aa UInt8
 | 0,v=>[by8 (v:Int)]
 | k+1,v=>if v<=127 then [by8 (v:Int)] else by8 ((v % 128+128:Nat):Int)::vF k (v / 128)
def vB (v:Nat):aa UInt8:=vF 9 v
def e2 (e:Ed):aa UInt8:=[by8 e.1,by8 e.2]
theorem acT {n:Int} {a:An} (h:qc n a=true):1<=n/\n<=12/\1<=a.1/\a.1<=100000/\mG n a.2.2.1=true/\(a.2.2.2.length:Int)=n/\sH n a.2.2.2=true:=by
 unfold qc at h;simp only [aU,aW] at h;obtain ⟨hn,h1,h2,h3⟩:=h;have h3':=h3;unfold sH at h3;split at h3
 ·rename_i hl;exact ⟨hn.1,hn.2,h1.1,h1.2,h2,hl,h3'⟩
 ·cases h3
def dec:Nat->aa UInt8->ah (Nat × Nat)
 | 0,_=>none
 | _+1,[]=>none
 | k+1,b::l=>if b.toNat<128 then some (b.toNat,1) else (dec k l).map fun r=>(b.toNat-128+128*r.1,r.2+1)
def rdV (l:aa UInt8):ah (Nat × Nat):=match dec 5 l with
 | some (v,m)=>if v<=1000000000/\vB v=l.take m then some (v,m) else none
 | none=>none
abbrev St:=Nat × Bool
def nm (T:aa UInt8) (s:St):Int × St:=
 if s.2 then (0,(s.1,true)) else match rdV (T.drop s.1) with
 | some (v,m)=>((v:Int),(s.1+m,false))
 | none=>(0,(s.1,true))
def on (T:aa UInt8) (s:St):Int × St:=
 if s.2 then (0,(s.1,true)) else match T[s.1]? with
 | some b=>((b.toNat:Int),(s.1+1,false))
 | none=>(0,(s.1,true))
def edF (T:aa UInt8):Nat->St->aa Ed->St × aa Ed
 | 0,s,out=>(s,out)
 | k+1,s,out=>if s.2 then (s,out) else edF T k (on T (on T s).2).2 (out++[((on T s).1,(on T (on T s).2).1)])
def q0 (T:aa UInt8):Int × St:=nm T (0,false)
def q1 (T:aa UInt8):Int × St:=on T (q0 T).2
def q2 (T:aa UInt8):Int × St:=nm T (q1 T).2
def q3 (T:aa UInt8) (K:Nat):St × aa Ed:=edF T K (nm T (q2 T).2).2 []
def lbF (T:aa UInt8):Nat->St->aa Int->St × aa Int
 | 0,s,out=>(s,out)
 | k+1,s,out=>lbF T k (on T s).2 (out++[(on T s).1])
def q4 (T:aa UInt8) (K:Nat):St × aa Ed:=edF T K (nm T (q1 T).2).2 []
def q5 (T:aa UInt8) (K N:Nat):St × aa Int:=lbF T N (q4 T K).1 []
theorem G5 (a b:aa Ed) (ha:a.length<=maxLen):rD (a,b)=some (decide (a=b),()):=by
 show xF BIG _=_;rw [Zh];by_cases hl:a.length=b.length
 ·rw [ak (by omega),bC,ax,ajy a b ha hl false]
  ·by_cases h:a=b<;>simp [h]
  ·intro self i x y hx hy;have hi:=(bf hx).1;simp only [show ((i:Int)<(a.length:Int)) from by omega,decide_true,ai];rw [aH hi,hx,ae,aH (by omega),hy,ae,bV (by omega)];obtain ⟨x1,x2⟩:=x;obtain ⟨y1,y2⟩:=y;by_cases h1:x1=y1<;>by_cases h2:x2=y2<;>simp [h1,h2]
  ·intro self;simp
 ·rw [aA (by omega),ib,ai,aA (fun h=>hl (by rw [h]))]
theorem tT (a b:aa Int) (ha:a.length<=maxLen):tN (a,b)=some (decide (a=b),()):=by
 show oW BIG _=_;rw [zy];by_cases hl:a.length=b.length
 ·rw [ak (by omega),bC,ax,ajy a b ha hl false]
  ·by_cases h:a=b<;>simp [h]
  ·intro self i x y hx hy;have hi:=(bf hx).1;simp only [show ((i:Int)<(a.length:Int)) from by omega,decide_true,ai];rw [aH hi,hx,ae,aH (by omega),hy,ae,bV (by omega)];by_cases h1:x=y<;>simp [h1]
  ·intro self;simp
 ·rw [aA (by omega),ib,ai,aA (fun h=>hl (by rw [h]))]
def blA (a:An):Bool:=decide (a.1=0)&&(!a.2.1&&(decide (a.2.2.1.length=0)&&decide (a.2.2.2.length=0)))
def blO (o:Bn):Bool:=decide (o.1=0)&&(decide (o.2.1=0)&&(decide (o.2.2.1.length=0)&&decide (o.2.2.2=0)))
def blQ (a b c d:Int):Bool:=decide (a=0)&&(decide (b=0)&&(decide (c=0)&&decide (d=0)))
theorem ajJ {α:Type} (l:aa α):decide ((l.length:Int)=0)=decide (l.length=0):=decide_eq_decide.2 (by omega)
theorem amf (a:An):I9 a=some (blA a,()):=by
 show I8 BIG _=_;rw [al7,ajJ,ajJ];unfold blA;cases decide (a.1=0)<;>cases a.2.1<;>cases decide (a.2.2.1.length=0)<;>rfl
theorem acU {α:Type} [DecidableEq α] (l:aa α):decide (l=[])=decide (l.length=0):=decide_eq_decide.2 qW.symm
theorem amg (a:An) (h1:a.2.2.1.length<=maxLen) (h2:a.2.2.2.length<=maxLen):Iw a=some (blA a,()):=by
 show Iu BIG _=_;rw [alr];have:vH (a,((0:Int),false,[],[]))=vG BIG (a,((0:Int),false,[],[])):=rfl;rw [this,W9];dsimp only;rw [G5 _ _ h1,tT _ _ h2,acU,acU];unfold blA;cases decide (a.1=0)<;>cases a.2.1<;>cases decide (a.2.2.1.length=0)<;>rfl
abbrev Rc:=Int × Int × Int × Int × Int × Int × Int × Bool × List (Int × Int) × List Int × Int × Int × List (Int × Int) × Int
theorem ays (a b c d:Int):(decide (a=0)&&(decide (b=0)&&(decide (c=0)&&(decide (d=0)&&true))))=blQ a b c d:=by simp [blQ]
theorem auB {α:Type} (a:aa α) (hl:a.length<18446744073709551616) (p:α->Bool) {F:(Int->ah (Unit ⊕ Int))->Int->ah (Unit ⊕ Int)}
  (hF:∀self (i:Nat) y,a[i]?=some y->F self (i:Int)=if p y then some (.inr (i:Int)) else self ((i+1:Nat):Int))
  (hE:∀self,F self (a.length:Int)=some (.inl ())):aK BIG F 0=some (if a.findIdx p<a.length then .inr (a.findIdx p:Int) else .inl ()):=by
 refine kI (fun (x:Int)=>∃i:Nat,x=(i:Int)/\i<=a.length/\∀j (hj:j<a.length),j<i->p a[j]=false) (fun x=>a.length-x.toNat) (fun _=>_) (fun self x ⟨i,h1,h2,h3⟩ hs => ?_) (n:=BIG) (x:=0) (by simp;exact hl) ⟨0,rfl,by simp,fun j _ hj=>by omega⟩;subst h1;by_cases hi:i<a.length
 ·rw [hF self i a[i] (aT hi)];cases hp:p a[i] with
  | true=>
   have:a.findIdx p=i:=(List.findIdx_eq hi).2 ⟨hp,fun j hj=>h3 j (by omega) hj⟩;rw [if_pos rfl,this,if_pos hi]
  | false=>
   rw [if_neg (by simp)];exact hs _ ⟨i+1,rfl,hi,fun j hj iA=>by
    by_cases hj':j=i
    ·subst hj';exact hp
    ·exact h3 j hj (by omega)⟩ (by simp;omega)
 ·have he:i=a.length:=by omega
  subst he;rw [hE,if_neg];intro h;have h4:=ags.1 h;obtain ⟨x,hx,hpx⟩:=h4;obtain ⟨j,hj,rfl⟩:=wJ hx;rw [h3 j hj hj] at hpx;cases hpx
def sA (l:aa Sd) (k:Int):Int:=if l.findIdx (fun y=>decide (y.1=k))<l.length then (l.findIdx (fun y=>decide (y.1=k)):Int) else -1
theorem Rb (l:aa Sd) (k:Int) (hl:l.length<=1048576):Bl (l,k)=some (sA l k,()):=by
 have hm:maxLen=9223372036854775807:=by decide
 show P7 BIG _=_;rw [atX];rw [auB l (by omega) (fun y=>decide (y.1=k))]
 ·unfold sA;split<;>rfl
 ·intro self i y hy;have hi:=(bf hy).1;simp only [show ((i:Int)<(l.length:Int)) from by omega,decide_true,ai];rw [aH hi,hy,ae,bV (by omega)];cases decide (y.1=k)<;>rfl
 ·intro self;simp
theorem MH (x0:Int) (x1:aa Int) (x2:aa Ed) (x3:aa (aa Int)) (x4:aa Int) (x5 x6 x7 x8 x9 x10 x11:Int) (x12:aa Ed) (x13:Int) (l:aa Sd) (k:Int) (hl:l.length<=1048576):xE ((x0,x1,x2,x3,x4,x5,x6,x7,x8,x9,x10,x11,x12,x13,l),k)=some (sA l k,()):=by
 have hm:maxLen=9223372036854775807:=by decide
 show K9 BIG _=_;rw [apV];dsimp only;rw [auB l (by omega) (fun y=>decide (y.1=k))]
 ·unfold sA;split<;>rfl
 ·intro self i y hy;have hi:=(bf hy).1;simp only [show ((i:Int)<(l.length:Int)) from by omega,decide_true,ai];rw [aH hi,hy,ae,bV (by omega)];cases decide (y.1=k)<;>rfl
 ·intro self;simp
theorem az6 {l:aa Sd} {i:Nat} {y:Sd} (h:l[i]?=some y):decide (0<=sA (l.take i) y.1) = !decide (sA l y.1=(i:Int)):=by
 obtain ⟨hi,rfl⟩:=bf h;have bU:l.findIdx (fun z=>decide (z.1=(l[i]).1))<l.length:=ags.2 ⟨l[i],nM hi,by simp⟩;have df:l.findIdx (fun z=>decide (z.1=(l[i]).1))<=i:=by
  by_cases hc:i<l.findIdx (fun z=>decide (z.1=(l[i]).1))
  ·have:=List.not_of_lt_findIdx hc;simp at this
  ·omega
 unfold sA;rw [if_pos bU];by_cases he:l.findIdx (fun z=>decide (z.1=(l[i]).1))=i
 ·rw [if_neg]
  ·simp [he]
  ·intro hc;obtain ⟨z,hz,hp⟩:=ags.1 hc;obtain ⟨j,hj,rfl⟩:=wJ hz;rw [iD] at hj;have:=List.not_of_lt_findIdx (xs:=l) (p:=fun z=>decide (z.1=(l[i]).1)) (i:=j) (by omega);rw [List.getElem_take] at hp;rw [this] at hp;cases hp
 ·have hc:(l.take i).findIdx (fun z=>decide (z.1=(l[i]).1))<(l.take i).length:=by
   refine ags.2 ⟨l[l.findIdx (fun z=>decide (z.1=(l[i]).1))],?_,by exact XW (xs:=l) (p:=fun z=>decide (z.1=(l[i]).1)) (w:=bU)⟩;refine FZ.2 ⟨l.findIdx (fun z=>decide (z.1=(l[i]).1)),by rw [iD];omega,?_⟩;rw [List.getElem_take]
  rw [if_pos hc,ak (by omega),aA (by omega)];rfl
def tB (a b c d sh:Int) (o:Bn):Bool:=blQ a b c d&&(decide (sh=0)&&blO o)
theorem auC (a b c d sh:Int) (o:Bn):Qa (a,b,c,d,sh,o)=some (tB a b c d sh o,()):=by
 show P_ BIG _=_;rw [at1,ajJ];dsimp only;rw [ays];unfold tB blO;cases blQ a b c d<;>cases decide (sh=0)<;>cases decide (o.1=0)<;>cases decide (o.2.1=0)<;>cases decide (o.2.2.1.length=0)<;>rfl
theorem abm (a b c d sh:Int) (o:Bn) (h1:o.2.2.1.length<=maxLen):xJ (a,b,c,d,sh,o)=some (tB a b c d sh o,()):=by
 show xI BIG _=_;rw [Zl];dsimp only;rw [ays];have h0:rE (o,((0:Int),(0:Int),[],(0:Int)))=some (blO o,()):=by
  have:rE (o,((0:Int),(0:Int),[],(0:Int)))=xH BIG (o,((0:Int),(0:Int),[],(0:Int))):=rfl;rw [this,Zj];dsimp only;rw [G5 _ _ h1,acU];unfold blO;cases decide (o.1=0)<;>cases decide (o.2.1=0)<;>cases decide (o.2.2.1.length=0)<;>cases decide (o.2.2.2=0)<;>rfl
 rw [h0];unfold tB;cases blQ a b c d<;>cases decide (sh=0)<;>cases blO o<;>rfl
def wC (n:Int) (k:Nat) (op a b:Int):Bool:=
 aY op 1 4&&(aY a 0 (n-1)&&(bif decide (op=4) then aY b 1 k else aY b 0 (n-1) && !(decide (a=b)&&(decide (op=1) || decide (op=2)))))
theorem afy (x0:Int) (x1:aa Int) (x2:aa Ed) (x3:aa (aa Int)) (x4:aa Int) (x5 x6 x7 x8 x9 x10 x11:Int) (x12:aa Ed) (x13:Int) (x14:aa Sd) (i op a b:Int) (h0:1<=x0/\x0<=12):GL ((x0,x1,x2,x3,x4,x5,x6,x7,x8,x9,x10,x11,x12,x13,x14),(i,op,a,b))=some (!wC x0 x3.length op a b,()):=by
 show Qb BIG _=_;rw [at6];dsimp only;rw [wr (by omega) (by omega)];simp only [jd];unfold wC;by_cases h4:op=4
 ·subst h4;simp only [decide_true,ai,ae];cases aY 4 1 4<;>cases aY a 0 (x0-1)<;>cases aY b 1 (x3.length:Int)<;>cases decide (a=b)<;>rfl
 ·simp only [h4,decide_false,ax,ae];cases aY op 1 4<;>cases aY a 0 (x0-1)<;>cases aY b 0 (x0-1)<;>cases decide (a=b)<;>cases decide (op=1)<;>cases decide (op=2)<;>rfl
theorem VO (x0:Int) (x1:aa Int) (x2:aa Ed) (x3:aa (aa Int)) (x4:aa Int) (x5 x6 x7 x8 x9 x10 x11:Int) (x12:aa Ed) (x13:Int) (x14:aa Sd) (i op a b:Int) (h0:1<=x0/\x0<=12):Ah ((x0,x1,x2,x3,x4,x5,x6,x7,x8,x9,x10,x11,x12,x13,x14),(i,op,a,b))=some (wC x0 x3.length op a b,()):=by
 show Im BIG _=_;rw [alh];dsimp only;rw [wr (by omega) (by omega)];simp only [dM];unfold wC;by_cases h4:op=4
 ·subst h4;simp only [decide_true,ai,ae];cases aY 4 1 4<;>cases aY a 0 (x0-1)<;>cases aY b 1 (x3.length:Int)<;>rfl
 ·simp only [h4,decide_false,ax,ae];by_cases h3:op=3
  ·subst h3;simp only [decide_true,ai,ae];cases aY 3 1 4<;>cases aY a 0 (x0-1)<;>cases aY b 0 (x0-1)<;>cases decide (a=b)<;>rfl
  ·simp only [h3,decide_false,ax];cases hq:aY op 1 4 with
   | false=>rfl
   | true=>
    have:(decide (op=1) || decide (op=2))=true:=by
     rw [aW] at hq;by_cases op=1<;>by_cases op=2<;>simp_all<;>omega
    rw [this];cases aY a 0 (x0-1)<;>cases aY b 0 (x0-1)<;>cases decide (a=b)<;>rfl
theorem gD {α:Type} {l:aa α} {i:Nat} {y d:α} (h:l[i]?=some y):l.getD i d=y:=by rw [dw,h];rfl
def p1 (k:Nat) (l:aa Int) (i:Nat):Bool:=aY (l.getD i 0) 1 k
def p2 (own:aa Int) (cuts:aa Ed) (i:Nat):Bool:=!decide (own.getD (cuts.getD i (0,0)).1.toNat 0=own.getD (cuts.getD i (0,0)).2.toNat 0)
def p3 (n:Int) (L:aa (aa Int)) (nums:aa Int) (i:Nat):Bool:=sH n (L.getD i [])&&aY (nums.getD i 0) 0 99991
def p4c (l:aa Sd) (i:Nat) (y:Sd):Bool:=decide (y.1=y.2.1)&&(aY y.2.2.2.2.2 1 3&&decide (sA l y.1=(i:Int)))
def p4 (l:aa Sd) (i:Nat):Bool:=p4c l i (l.getD i (0,0,0,0,0,0))
abbrev oP1 (k:Nat) (l:List Int):Prop:=∀i,i<l.length->p1 k l i=true
abbrev oP2 (own:List Int) (cuts:List Ed):Prop:=∀i,i<cuts.length->p2 own cuts i=true
abbrev oP3 (n:Int) (L:List (List Int)) (nums:List Int):Prop:=∀i,i<L.length->p3 n L nums i=true
abbrev yP (l:List Sd):Prop:=∀i,i<l.length->p4 l i=true
theorem aoh (own:aa Int) (cuts:aa Ed) (n:Int) (he:mG n cuts=true) (hn:(own.length:Int)=n) {B:Type} (self:Int->ah (Unit ⊕ Bool)) (i:Nat) (y:Ed) (hy:cuts[i]?=some y) (hl:cuts.length<=1048576) :
  (bnd own.length y.1 fun n12=>
   Option.bind own[n12]? fun y13=>
   bnd own.length y.2 fun n14=>
   Option.bind own[n14]? fun y15=>
   bif decide (y13=y15) then some (Sum.inr false)
   else self (IntKind.wrap .i64 ((i:Int)+(1:Int))))=if p2 own cuts i then self ((i+1:Nat):Int) else some (.inr false):=by
 have hm:maxLen=9223372036854775807:=by decide
 have hi:=(bf hy).1;subst hn;have hb:=fQ ((lw he).1 y (eZ hy));have h1:own[y.1.toNat]?=some (own[y.1.toNat]'(by omega)):=aT (by omega);have h2:own[y.2.toNat]?=some (own[y.2.toNat]'(by omega)):=aT (by omega);rw [bW (by omega) (by omega),h1,ae,bW (by omega) (by omega),h2,ae,bV (by omega)];unfold p2;rw [gD hy,gD h1,gD h2];cases decide (own[y.1.toNat]'(by omega)=own[y.2.toNat]'(by omega))<;>rfl
open Classical in
noncomputable def uH (n:Int) (own:aa Int) (cuts:aa Ed) (L:aa (aa Int)) (nums:aa Int) (said:aa Sd) (t:Bool):Bool:=
 decide ((aY n 1 12=true/\aY (L.length:Int) 1 3=true/\nums.length=L.length)/\oP3 n L nums/\((own.length:Int)=n/\mG n cuts=true)/\oP1 L.length own/\oP2 own cuts/\(yP said/\said.length<=80)/\t=true)
def sI (n:Int) (k:Nat) (nums:aa Int) (said:aa Sd) (id op a b sh:Int) (o:Bn):Bool:=
 tB id op a b sh o || ((aY id 1 100000&&(!decide (op=3)&&wC n k op a b))&&(aY sh 1 k&&(qb n o&&(decide (o.1=IntKind.wrap .i64 (nums.getD (sh-1).toNat 0+1))&&decide (sA said id<0)))))
theorem auF (x0:Int) (x1:aa Int) (x2:aa Ed) (x3:aa (aa Int)) (x4:aa Int) (x5 x6 x7 x8 x9 x10 x11:Int) (x12:aa Ed) (x13:Int) (x14:aa Sd) (h0:1<=x0/\x0<=12) (h4:x4.length=x3.length) (hk:x3.length<=3) (dQ:x12.length<=1048576) (nI:x14.length<=1048576) :
  Qe (x0,x1,x2,x3,x4,x5,x6,x7,x8,x9,x10,x11,x12,x13,x14)=some (sI x0 x3.length x4 x14 x5 x6 x7 x8 x9 (x10,x11,x12,x13),()):=by
 show Qd BIG _=_;rw [aua];dsimp only;rw [auC x5 x6 x7 x8 x9 (x10,x11,x12,x13),ae,afy _ _ _ _ _ _ _ _ _ _ _ _ _ _ _ _ _ _ _ h0];simp only [jd];unfold sI;cases tB x5 x6 x7 x8 x9 (x10,x11,x12,x13) with
 | true=>rfl
 | false=>
  simp only [ax,ae,wK];cases aY x5 1 100000 with
  | false=>rfl
  | true=>
   cases decide (x6=3) with
   | true=>rfl
   | false=>
    cases wC x0 x3.length x6 x7 x8 with
    | false=>rfl
    | true=>
     simp only [bC,ax,ae,ib,wM,dZ];cases hs:aY x9 1 (x3.length:Int) with
     | false=>rfl
     | true=>
      rw [MB x0 (x10,x11,x12,x13) dQ];simp only [ai,ae,dZ];cases qb x0 (x10,x11,x12,x13) with
      | false=>rfl
      | true=>
       rw [aW] at hs;have h1:x4[(x9-1).toNat]?=some (x4[(x9-1).toNat]'(by omega)):=aT (by omega);rw [ai,wr (n:=x9-1) (by omega) (by omega),bW (by omega) (by omega),h1,ae,gD h1,Rb x14 x5 nI];simp only [dZ];cases decide (x10=IntKind.wrap .i64 (x4[(x9-1).toNat]'(by omega)+1))<;>rfl
theorem ajM (x0:Int) (x1:aa Int) (x2:aa Ed) (x3:aa (aa Int)) (x4:aa Int) (x5 x6 x7 x8 x9 x10 x11:Int) (x12:aa Ed) (x13:Int) (x14:aa Sd) (h0:1<=x0/\x0<=12) (h4:x4.length=x3.length) (hk:x3.length<=3) (dQ:x12.length<=1048576) (nI:x14.length<=1048576) :
  Ej (x0,x1,x2,x3,x4,x5,x6,x7,x8,x9,x10,x11,x12,x13,x14)=some (sI x0 x3.length x4 x14 x5 x6 x7 x8 x9 (x10,x11,x12,x13),()):=by
 have hm:maxLen=9223372036854775807:=by decide
 show Ei BIG _=_;rw [aii];dsimp only;rw [abm x5 x6 x7 x8 x9 (x10,x11,x12,x13) (by simp only;omega),ae,VO _ _ _ _ _ _ _ _ _ _ _ _ _ _ _ _ _ _ _ h0,MH _ _ _ _ _ _ _ _ _ _ _ _ _ _ _ _ nI];simp only [dM];unfold sI;cases tB x5 x6 x7 x8 x9 (x10,x11,x12,x13) with
 | true=>rfl
 | false=>
  simp only [ax,ae,wK];cases hs:aY x9 1 (x3.length:Int) with
  | false=>simp
  | true=>
   rw [Mx x0 (x10,x11,x12,x13) dQ];simp only [ai,ae,dZ];cases qb x0 (x10,x11,x12,x13) with
   | false=>simp
   | true=>
    rw [aW] at hs;have h1:x4[(x9-1).toNat]?=some (x4[(x9-1).toNat]'(by omega)):=aT (by omega);rw [ai,wr (n:=x9-1) (by omega) (by omega),bW (by omega) (by omega),h1,ae,gD h1];simp only [dZ];cases decide (x10=IntKind.wrap .i64 (x4[(x9-1).toNat]'(by omega)+1))<;>cases decide (sA x14 x5<0)<;>cases wC x0 x3.length x6 x7 x8<;>cases decide (x6=3)<;>cases aY x5 1 100000<;>rfl
open Classical in
theorem awS (x0:Int) (x1:aa Int) (x2:aa Ed) (x3:aa (aa Int)) (x4:aa Int) (x5 x6 x7 x8 x9 x10 x11:Int) (x12:aa Ed) (x13:Int) (x14:aa Sd) (h1:x1.length<=1048576) (h2:x2.length<=1048576) :
  Xe (x0,x1,x2,x3,x4,x5,x6,x7,x8,x9,x10,x11,x12,x13,x14)=some (decide (((x1.length:Int)=x0/\mG x0 x2=true)/\oP1 x3.length x1/\oP2 x1 x2),()):=by
 have hm:maxLen=9223372036854775807:=by decide
 show Xd BIG _=_;rw [awy];dsimp only;rw [Db x0 x2 h2];by_cases hn:(x1.length:Int)=x0
 ·cases he:mG x0 x2 with
  | false=>simp [hn]
  | true=>
   rw [ak hn];simp only [bC,ax,ae];rw [lq x1 (by omega) (p1 x3.length x1) false]
   ·by_cases hp:oP1 x3.length x1
    ·rw [if_pos hp];simp only [ae];rw [lq x2 (by omega) (p2 x1 x2) false]
     ·by_cases hq:oP2 x1 x2
      ·rw [if_pos hq,ak (by exact ⟨⟨hn,by first|rfl|trivial|exact he⟩,hp,hq⟩)];rfl
      ·rw [if_neg hq,aA (fun h=>hq h.2.2)];rfl
     ·intro self i y hy;have hi:=(bf hy).1;simp only [show ((i:Int)<(x2.length:Int)) from by omega,decide_true,ai];rw [aH hi,hy,ae];exact aoh x1 x2 x0 he hn (B:=Unit) self i y hy h2
     ·intro self;simp
    ·rw [if_neg hp,aA (fun h=>hp h.2.1)];rfl
   ·intro self i y hy;have hi:=(bf hy).1;simp only [show ((i:Int)<(x1.length:Int)) from by omega,decide_true,ai];rw [aH hi,hy,ae,jd,ae,bV (by omega)];unfold p1;rw [gD hy];cases aY y 1 (x3.length:Int)<;>rfl
   ·intro self;simp
 ·rw [aA hn];simp [hn]
open Classical in
theorem auG (l:aa Sd) (hl:l.length<=1048576):P9 l=some (decide (yP l/\l.length<=80),()):=by
 have hm:maxLen=9223372036854775807:=by decide
 show P8 BIG _=_;rw [atZ];rw [lq l (by omega) (p4 l) false]
 ·by_cases hp:yP l
  ·rw [if_pos hp];by_cases hq:l.length<=80
   ·have e:decide (yP l/\l.length<=80)=true:=ak ⟨hp,hq⟩;have e2:decide ((l.length:Int)<=80)=true:=ak (by omega);rw [e,e2];rfl
   ·have e:decide (yP l/\l.length<=80)=false:=aA (fun h=>hq h.2);have e2:decide ((l.length:Int)<=80)=false:=aA (by omega);rw [e,e2];rfl
  ·have e:decide (yP l/\l.length<=80)=false:=aA (fun h=>hp h.1);rw [if_neg hp,e];rfl
 ·intro self i y hy;have hi:=(bf hy).1;simp only [show ((i:Int)<(l.length:Int)) from by omega,decide_true,ai];rw [aH hi,hy,ae,jd,bV (by omega),ak (show (0:Int)<=(i:Int) from by omega),ak (show 0<=Int.toNat (i:Int)/\Int.toNat (i:Int)<=l.length from ⟨by omega,by omega⟩),iB,rR,tu,Rb _ _ (by rw [iD];omega)];simp only [ai,ae];rw [az6 hy];unfold p4;rw [gD hy];unfold p4c;cases decide (y.1=y.2.1)<;>cases aY y.2.2.2.2.2 1 3<;>cases decide (sA l y.1=(i:Int))<;>rfl
 ·intro self;simp
theorem aBW {n:Int} {own:aa Int} {cuts:aa Ed} {L:aa (aa Int)} {nums:aa Int} {said:aa Sd} {t:Bool} (h:(aY n 1 12=true/\aY (L.length:Int) 1 3=true/\nums.length=L.length)/\oP3 n L nums/\((own.length:Int)=n/\mG n cuts=true)/\oP1 L.length own/\oP2 own cuts/\(yP said/\said.length<=80)/\t=true):uH n own cuts L nums said t=true:=by
 unfold uH;exact ak h
theorem qQ {n:Int} {own:aa Int} {cuts:aa Ed} {L:aa (aa Int)} {nums:aa Int} {said:aa Sd} {t:Bool} (h:(aY n 1 12=true/\aY (L.length:Int) 1 3=true/\nums.length=L.length)/\oP3 n L nums/\((own.length:Int)=n/\mG n cuts=true)/\oP1 L.length own/\oP2 own cuts/\(yP said/\said.length<=80)/\t=true->False):uH n own cuts L nums said t=false:=by
 unfold uH;exact aA h
open Classical in
theorem Re (x0:Int) (x1:aa Int) (x2:aa Ed) (x3:aa (aa Int)) (x4:aa Int) (x5 x6 x7 x8 x9 x10 x11:Int) (x12:aa Ed) (x13:Int) (x14:aa Sd) (h1:x1.length<=1048576) (h2:x2.length<=1048576) (h3:x3.length<=1048576/\∀y,y∈x3->y.length<=1048576) (dQ:x12.length<=1048576) (nI:x14.length<=1048576) :
  wz (x0,x1,x2,x3,x4,x5,x6,x7,x8,x9,x10,x11,x12,x13,x14)=some (uH x0 x1 x2 x3 x4 x14 (sI x0 x3.length x4 x14 x5 x6 x7 x8 x9 (x10,x11,x12,x13)),()):=by
 have hm:maxLen=9223372036854775807:=by decide
 show Qf BIG _=_;rw [auc];dsimp only;rw [awS _ _ _ _ _ _ _ _ _ _ _ _ _ _ _ h1 h2,auG _ nI];simp only [jd];cases ha:aY x0 1 12 with
 | false=>rw [qQ (fun h=>by rw [ha] at h;cases h.1.1)];rfl
 | true=>
  cases hb:aY (x3.length:Int) 1 3 with
  | false=>rw [qQ (fun h=>by rw [hb] at h;cases h.1.2.1)];rfl
  | true=>
   by_cases hc:x4.length=x3.length
   ·rw [ak (show (x4.length:Int)=(x3.length:Int) from by omega)];simp only [bC,ax,ae];rw [lq x3 (by omega) (p3 x0 x3 x4) false]
    ·by_cases hp:oP3 x0 x3 x4
     ·rw [if_pos hp];have ha0:=ha;have hb0:=hb;rw [aW] at ha hb;rw [auF _ _ _ _ _ _ _ _ _ _ _ _ _ _ _ ha hc (by omega) dQ nI];simp only [ae];by_cases q1:((x1.length:Int)=x0/\mG x0 x2=true)/\oP1 x3.length x1/\oP2 x1 x2
      ·by_cases q2:yP x14/\x14.length<=80
       ·cases q3:sI x0 x3.length x4 x14 x5 x6 x7 x8 x9 (x10,x11,x12,x13) with
        | false=>rw [ak q1,ak q2,qQ (fun h=>by cases h.2.2.2.2.2.2)];rfl
        | true=>rw [ak q1,ak q2,aBW ⟨⟨ha0,hb0,hc⟩,hp,q1.1,q1.2.1,q1.2.2,q2,rfl⟩];rfl
       ·rw [ak q1,aA q2,qQ (fun h=>q2 h.2.2.2.2.2.1)];rfl
      ·rw [aA q1,qQ (fun h=>q1 ⟨h.2.2.1,h.2.2.2.1,h.2.2.2.2.1⟩)];rfl
     ·rw [if_neg hp,qQ (fun h=>hp h.2.1)];rfl
    ·intro self i y hy;have hi:=(bf hy).1;have hz:x4[i]?=some (x4[i]'(by omega)):=aT (by omega);simp only [show ((i:Int)<(x3.length:Int)) from by omega,decide_true,ai];simp only [aH hi,hy,ae,VK x0 y (h3.2 y (eZ hy)),aH (show i<x4.length from by omega),hz,bV (show i<maxLen from by omega)];unfold p3;rw [gD hy,gD hz];cases sH x0 y<;>cases aY (x4[i]'(by omega)) 0 99991<;>rfl
    ·intro self;simp
   ·rw [aA (show ¬(x4.length:Int)=(x3.length:Int) from by omega),qQ (fun h=>hc h.1.2.2)];rfl
open Classical in
theorem Rf (x0 : Int) (x1 : aa Int) (x2 : aa Ed) (x3 : aa (aa Int)) (x4 : aa Int) (x5 x6 x7 x8 x9 x10 x11 : Int) (x12 : aa Ed) (x13 : Int) (x14 : aa Sd) (h1 : x1.length ≤ 1048576) (h2 : x2.length ≤ 1048576) (h3 : x3.length ≤ 1048576 ∧ ∀ y, y ∈ x3 → y.length ≤ 1048576) (dQ : x12.length ≤ 1048576) (nI : x14.length ≤ 1048576) :
    Be (x0, x1, x2, x3, x4, x5, x6, x7, x8, x9, x10, x11, x12, x13, x14) = some (uH x0 x1 x2 x3 x4 x14 (sI x0 x3.length x4 x14 x5 x6 x7 x8 x9 (x10, x11, x12, x13)), ()) := by
  have hm : maxLen = 9223372036854775807 := by decide
  show Pd BIG _ = _;rw [aty];dsimp only;rw [Az x0 x2 h2];simp only [dM];cases ha : aY x0 1 12 with
  | false => rw [qQ (fun h => by rw [ha] at h; cases h.1.1)]; rfl
  | true =>
    cases hb : aY (x3.length : Int) 1 3 with
    | false => rw [qQ (fun h => by rw [hb] at h; cases h.1.2.1)]; rfl
    | true =>
      by_cases hc : x4.length = x3.length
      · rw [ak (show (x4.length : Int) = (x3.length : Int) from by omega)]
        simp only [bC, ax, ae]
        by_cases hn : (x1.length : Int) = x0
        · rw [ak hn]
          cases he : mG x0 x2 with
          | false => rw [qQ (fun h => by rw [he] at h; cases h.2.2.1.2)]; rfl
          | true =>
            simp only [bC, ax, ae];by_cases hs : x14.length ≤ 80
            · rw [aA (show ¬ (80 : Int) < (x14.length : Int) from by omega), ax]
              rw [lq x3 (by omega) (p3 x0 x3 x4) false]
              · by_cases hp : oP3 x0 x3 x4
                · rw [if_pos hp]
                  simp only [ae]
                  have L1 := lq x1 (by omega) (p1 x3.length x1) false (F := fun (self16 : Int → ah (Unit ⊕ Bool)) (x15 : Int) =>
                     bif decide (x15 < x0) then
                      bnd x1.length x15 fun n17 =>
                      Option.bind x1[n17]? fun y18 =>
                      bif !aY y18 (1 : Int) (x3.length : Int) then
                       some (Sum.inr false)
                      else self16 (IntKind.wrap .i64 (x15 + (1 : Int)))
                     else some (Sum.inl ())) (by
                    intro self i y hy
                    have hi := (bf hy).1
                    simp only [show ((i : Int) < x0) from by omega, decide_true, ai]
                    rw [aH hi, hy, ae, bV (by omega)]
                    unfold p1
                    rw [gD hy]
                    cases aY y 1 (x3.length : Int) <;> rfl) (by
                    intro self
                    simp [hn])
                  rw [L1]
                  by_cases HY : oP1 x3.length x1
                  · rw [if_pos HY]
                    simp only [ae]
                    rw [lq x2 (by omega) (p2 x1 x2) false]
                    · by_cases Hm : oP2 x1 x2
                      · rw [if_pos Hm]
                        simp only [ae]
                        rw [lq x14 (by omega) (p4 x14) false]
                        · by_cases hp4 : yP x14
                          · rw [if_pos hp4]
                            have ha0 := ha
                            have hb0 := hb
                            rw [aW] at ha hb
                            simp only [ae]
                            rw [ajM _ _ _ _ _ _ _ _ _ _ _ _ _ _ _ ha hc (by omega) dQ nI]
                            simp only [ae]
                            cases q3 : sI x0 x3.length x4 x14 x5 x6 x7 x8 x9 (x10, x11, x12, x13) with
                            | false => rw [qQ (fun h => by cases h.2.2.2.2.2.2)]
                            | true => rw [aBW ⟨⟨ha0, hb0, hc⟩, hp, ⟨hn, he⟩, HY, Hm, ⟨hp4, hs⟩, rfl⟩]
                          · rw [if_neg hp4, qQ (fun h => hp4 h.2.2.2.2.2.1.1)]; rfl
                        · intro self i y hy
                          have hi := (bf hy).1
                          simp only [show ((i : Int) < (x14.length : Int)) from by omega, decide_true, ai]
                          simp only [aH hi, hy, ae, bV (show i < maxLen from by omega), MH _ _ _ _ _ _ _ _ _ _ _ _ _ _ _ _ nI]
                          unfold p4
                          rw [gD hy]
                          unfold p4c
                          cases decide (y.1 = y.2.1) <;> cases aY y.2.2.2.2.2 1 3 <;> cases decide (sA x14 y.1 = (i : Int)) <;> rfl
                        · intro self; simp
                      · rw [if_neg Hm, qQ (fun h => Hm h.2.2.2.2.1)]; rfl
                    · intro self i y hy
                      have hi := (bf hy).1
                      simp only [show ((i : Int) < (x2.length : Int)) from by omega, decide_true, ai]
                      simp only [aH hi, hy, ae]
                      exact aoh x1 x2 x0 he hn (B := Unit) self i y hy h2
                    · intro self; simp
                  · rw [if_neg HY, qQ (fun h => HY h.2.2.2.1)]; rfl
                · rw [if_neg hp, qQ (fun h => hp h.2.1)]; rfl
              · intro self i y hy
                have hi := (bf hy).1
                have hz : x4[i]? = some (x4[i]'(by omega)) := aT (by omega)
                simp only [show ((i : Int) < (x3.length : Int)) from by omega, decide_true, ai]
                simp only [aH hi, hy, ae, Q7 x0 y (h3.2 y (eZ hy)), aH (show i < x4.length from by omega), hz, bV (show i < maxLen from by omega)]
                unfold p3
                rw [gD hy, gD hz]
                cases sH x0 y <;> cases aY (x4[i]'(by omega)) 0 99991 <;> rfl
              · intro self; simp
            · rw [ak (show (80 : Int) < (x14.length : Int) from by omega), qQ (fun h => hs h.2.2.2.2.2.1.2)]; rfl
        · rw [aA hn, qQ (fun h => hn h.2.2.1.1)]; rfl
      · rw [aA (show ¬ (x4.length : Int) = (x3.length : Int) from by omega), qQ (fun h => hc h.1.2.2)]; rfl
theorem Br {S α:Type} (p:α->Bool) (f:S->α->S):∀(l:aa α) (s:S),fM (fun s y=>if p y=true then some (f s y) else none) s l=if l.all p=true then some (l.foldl f s) else none
 | [],s=>by simp [fM]
 | y::l,s=>by
  rw [fM];cases hp:p y with
  | false=>simp [hp]
  | true=>simp only [if_true,ae,Br p f l,Dv,hp,dZ,gK]
def Ch (l:aa Int):aa Ed:=l.zipIdx.map fun p=>(p.1,(p.2:Int))
def vP (l:aa Int):Bool:=l.zipIdx.all fun p=>aY p.1 0 (p.2:Int)
def pL (n:Int) (l:aa Int):Bool:=decide ((l.length:Int)=n)&&vP l
def wlB (n:Int) (L:aa (aa Int)) (cuts:aa Ed):Bool:=aY n 1 12&&(decide (L.length<=3)&&(L.all (pL n)&&cuts.all (eG n)))
def Ci (n:Int) (L:aa (aa Int)) (cuts:aa Ed):aa Int × Bool:=if wlB n L cuts=true then (labs n.toNat (L.flatMap Ch++cuts),true) else ([],false)
theorem Kb {l:aa Int} {i:Nat} {p:Int × Nat} (h:l.zipIdx[i]?=some p):l[i]?=some p.1/\p.2=i:=by
 rw [List.getElem?_zipIdx] at h;cases hl:l[i]? with
 | none=>rw [hl] at h;simp at h
 | some x=>rw [hl] at h;simp at h;subst h;simp
theorem aDO {n:Nat} {l:aa Int} (hl:l.length=n) (h:vP l=true):o8 n (Ch l):=by
 intro e he;obtain ⟨p,hp,rfl⟩:=bY.1 he;obtain ⟨i,hi,rfl⟩:=wJ hp;have h1:=bX.1 h _ hp;obtain ⟨h2,h3⟩:=Kb (aT hi);rw [aW] at h1;rw [XY] at hi;refine ⟨h1.1,?_,?_,?_⟩<;>(simp only;omega)
theorem foldl_flat {α β S:Type} (f:α->aa β) (g:S->β->S):∀(L:aa α) (s:S),L.foldl (fun s l=>(f l).foldl g s) s=(L.flatMap f).foldl g s
 | [],s=>rfl
 | l::L,s=>by simp only [gK,X3,pR,foldl_flat f g L]
theorem Rh (E:aa Ed) (s:aa Int):(E.foldl unE s).length=s.length:=by
 induction E generalizing s with
 | nil=>rfl
 | cons e E ih=>rw [gK,ih,SE]
theorem acV (n:Int) (L:aa (aa Int)) (cuts:aa Ed) (hL:L.length<=1048576) (hc:cuts.length<=1048576):zM (n,L,cuts)=some (Ci n L cuts,()):=by
 have hm:maxLen=9223372036854775807:=by decide
 show zJ BIG _=_;rw [acI,jd];unfold Ci wlB;cases hn:aY n 1 12 with
 | false=>rfl
 | true=>
  rw [aW] at hn;obtain ⟨k,rfl⟩:∃k:Nat,n=(k:Int):=⟨n.toNat,by omega⟩
  by_cases h3:L.length<=3;case neg=>rw [aA h3];simp only [ae,bC,ax];rw [ak (by omega)];rfl
  rw [ak h3];simp only [ae,bC,ax,dZ];rw [aA (show ¬(3:Int)<(L.length:Int) from by omega),ax,ME k (by omega),ae];rw [vR L (by omega) (fun _ (s:aa Int)=>s.length=k) (fun s l=>if pL k l=true then some ((Ch l).foldl unE s) else none) (([],false):aa Int × Bool) (vQ k) (fun i s y s' hy hs he=>by
   split at he
   ·cases he;rw [Rh];exact hs
   ·cases he) (fun self s i y hy hs => ?_) (fun self s hs=>by simp)]
  ·rw [Br];cases FM:L.all (pL k) with
   | false=>rfl
   | true=>
    simp only [if_true,ae,foldl_flat,dZ];rw [vR cuts (by omega) (fun _ (s:aa Int)=>s.length=k) (fun s e=>if eG k e=true then some (unE s e) else none) (([],false):aa Int × Bool) (by rw [Rh];exact vQ k) (fun i s y s' hy hs he=>by
     split at he
     ·cases he;rw [SE];exact hs
     ·cases he) (fun self s i y hy hs => ?_) (fun self s hs=>by simp)]
    ·rw [Br];cases agM:cuts.all (eG k) with
     | false=>rfl
     | true=>
      simp only [if_true,ae,iB];unfold labs;rw [pR]
    ·have hi:=(bf hy).1;simp only [show ((i:Int)<(cuts.length:Int)) from by omega,decide_true,ai];rw [aH hi,hy,ae,Q6,bV (by omega)];cases he:eG k y with
     | false=>rfl
     | true=>
      have bq:=fQ he;simp only [ae,bC,ax,if_true];rw [MF s y.1 y.2 bq.1 (by omega) bq.2.2.1 (by omega) (by omega)];rfl
  ·have hi:=(bf hy).1;simp only [show ((i:Int)<(L.length:Int)) from by omega,decide_true,ai];rw [aH hi,hy,ae,bV (by omega)];by_cases bP:(y.length:Int)=(k:Int)
   case neg=>unfold pL;rw [aA bP];rfl
   rw [ak bP,bC,ax];have hz:(y.zipIdx).length=y.length:=XY;have hlz:(((y.length:Nat):Int))=((y.zipIdx.length:Nat):Int):=by rw [hz]
   rw [vR y.zipIdx (by omega) (fun _ (s:aa Int)=>s.length=k) (fun s p=>if aY p.1 0 (p.2:Int)=true then some (unE s (p.1,(p.2:Int))) else none) (([],false):aa Int × Bool) hs (fun i s y s' hy hs he=>by
    split at he
    ·cases he;rw [SE];exact hs
    ·cases he) (fun self s j p hp hs => ?_) (fun self s hs=>by simp only [hz,show ¬((y.length:Int)<(y.length:Int)) from by omega,decide_false,ax])]
   ·rw [Br];have e1:pL k y=vP y:=by unfold pL;rw [ak bP,dZ]
    rw [e1];unfold vP Ch;cases y.zipIdx.all fun p=>aY p.1 0 (p.2:Int) with
    | false=>rfl
    | true=>simp only [if_true,ae,List.foldl_map]
   ·obtain ⟨HY,Hm⟩:=Kb hp;have hj:=(bf HY).1;obtain ⟨x,v⟩:=p;simp only at HY Hm;subst Hm;simp only [show ((v:Int)<(y.length:Int)) from by omega,decide_true,ai];rw [aH hj,HY,ae,jd,bV (by omega)];cases hx:aY x 0 (v:Int) with
    | false=>rfl
    | true=>
     rw [aW] at hx;simp only [ae,bC,ax,if_true];rw [MF s x (v:Int) hx.1 (by omega) (by omega) (by omega) (by omega)];rfl
def Ri (l:aa Int):aa Ed:=(Ch l).filter fun e=>decide (e.1<e.2)
theorem MI:∀(E:aa Ed) (s:aa Int),(∀e,e∈E->e.1<=e.2)->(E.filter fun e=>decide (e.1<e.2)).foldl unE s=E.foldl unE s
 | [],s,_=>rfl
 | e::E,s,h=>by
  rw [Kw];by_cases he:e.1<e.2
  ·rw [ak he,if_pos rfl,gK,gK];exact MI E _ fun e' HV=>h e' (dU _ HV)
  ·have h1:=h e (dX ..);have h2:e.1=e.2:=by omega
   rw [aA he,if_neg (by simp),gK,show unE s e=s from by unfold unE;rw [h2,ajA]];exact MI E s fun e' HV=>h e' (dU _ HV)
theorem az7 {n:Nat} {L:aa (aa Int)} (cuts:aa Ed) (h:L.all (pL n)=true):labs n (L.flatMap Ri++cuts)=labs n (L.flatMap Ch++cuts):=by
 unfold labs;rw [pR,pR];congr 1;have e1:L.flatMap Ri=(L.flatMap Ch).filter fun e=>decide (e.1<e.2):=by
  rw [List.filter_flatMap];rfl
 rw [e1,MI];intro e he;obtain ⟨l,hl,Cn⟩:=Cs.1 he;have h1:=bX.1 h l hl;simp only [pL,aU,decide_eq_true_eq] at h1;obtain ⟨p,hp,rfl⟩:=bY.1 Cn;have h2:=bX.1 h1.2 p hp;rw [aW] at h2;exact h2.2
theorem aDP {n:Nat} {L:aa (aa Int)} {cuts:aa Ed} (h:L.all (pL n)=true) (hc:cuts.all (eG n)=true):o8 n (L.flatMap Ri++cuts):=by
 intro e he;rcases bJ.1 he with he|he
 ·obtain ⟨l,hl,Cn⟩:=Cs.1 he;have h1:=bX.1 h l hl;simp only [pL,aU,decide_eq_true_eq] at h1;exact aDO (by omega) h1.2 e (jQ.1 Cn).1
 ·have:=fQ (bX.1 hc e he);exact ⟨this.1,this.2.1,this.2.2.1,this.2.2.2.1⟩
theorem ajN:∀(l:aa (Int × Nat)) (s:aa Ed),l.foldl (fun (s:aa Ed) p=>if p.1<(p.2:Int) then s++[(p.1,(p.2:Int))] else s) s=s++((l.map fun p=>(p.1,(p.2:Int))).filter fun e=>decide (e.1<e.2))
 | [],s=>by simp
 | p::l,s=>by
  rw [gK,ajN l,bz,Kw];by_cases h:p.1<(p.2:Int)
  ·simp [h]
  ·simp [h]
theorem afz {α β:Type} (f:α->aa β):∀(L:aa α) (s:aa β),L.foldl (fun s l=>s++f l) s=s++L.flatMap f
 | [],s=>by simp
 | l::L,s=>by rw [gK,afz f L,X3,lW]
theorem acW (n:Int) (L:aa (aa Int)) (cuts:aa Ed) (hL:L.length<=1048576) (hc:cuts.length<=1048576):zu (n,L,cuts)=some (if cuts.length<=1000 then Ci n L cuts else ([],false),()):=by
 have hm:maxLen=9223372036854775807:=by decide
 show zt BIG _=_;rw [acx,dM];unfold Ci wlB;cases hn:aY n 1 12 with
 | false=>simp
 | true=>
  rw [aW] at hn;obtain ⟨k,rfl⟩:∃k:Nat,n=(k:Int):=⟨n.toNat,by omega⟩
  by_cases h3:L.length<=3;case neg=>rw [aA h3];simp only [ae,bC,ax];rw [ak (by omega)];simp
  rw [ak h3];simp only [ae,bC,ax,dZ];rw [aA (show ¬(3:Int)<(L.length:Int) from by omega),ax];by_cases ayU:cuts.length<=1000;case neg=>rw [ak (by omega),if_neg ayU];rfl
  rw [aA (by omega),if_pos ayU];simp only [ae,ax];rw [vR L (by omega) (fun i (s:aa Ed)=>s.length<=12*i) (fun s l=>if pL k l=true then some (s++Ri l) else none) (([],false):aa Int × Bool) (by simp) (fun i s y s' hy hs he=>by
   split at he
   ·rename_i hp
    cases he
    simp only [pL,aU,decide_eq_true_eq] at hp
    have h4:(Ri y).length<=y.length:=by
     unfold Ri Ch
     refine kz (qX _ _) ?_
     simp
    rw [dR];omega
   ·cases he) (fun self s i y hy hs => ?_) (fun self s hs=>by simp)]
  ·rw [Br];cases FM:L.all (pL k) with
   | false=>rfl
   | true=>
    simp only [if_true,ae,afz,dZ,gX];have yS:(L.flatMap Ri).length<=36:=by
     have:∀M:aa (aa Int),M.all (pL k)=true->(M.flatMap Ri).length<=12*M.length:=by
      intro M;induction M with
      | nil=>intro _;simp
      | cons y M ih=>
       intro h;simp only [Dv,aU] at h;have h5:=ih h.2;have hp:=h.1;simp only [pL,aU,decide_eq_true_eq] at hp;have h4:(Ri y).length<=y.length:=by
        unfold Ri Ch;refine kz (qX _ _) ?_;simp
       rw [X3,dR,bI];omega
     have:=this L FM;omega
    rw [vR cuts (by omega) (fun i (s:aa Ed)=>s.length<=36+i) (fun s e=>if eG k e=true then some (s++[e]) else none) (([],false):aa Int × Bool) (by omega) (fun i s y s' hy hs he=>by
     split at he
     ·cases he;simp;omega
     ·cases he) (fun self s i y hy hs => ?_) (fun self s hs=>by simp)]
    ·rw [Br];cases agM:cuts.all (eG k) with
     | false=>rfl
     | true=>
      have arM:∀(l:aa Ed) (s:aa Ed),l.foldl (fun s e=>s++[e]) s=s++l:=by
       intro l;induction l with
       | nil=>intro s;simp
       | cons e l ih=>intro s;rw [gK,ih];simp
      simp only [if_true,ae,iB,arM];rw [Fv k _ (by omega) (aDP FM agM) (by rw [dR];omega),ae,az7 cuts FM]
    ·have hi:=(bf hy).1;simp only [show ((i:Int)<(cuts.length:Int)) from by omega,decide_true,ai];rw [aH hi,hy,ae,GZ,bV (by omega)];cases he:eG k y with
     | false=>rfl
     | true=>
      simp only [ae,bC,ax,if_true];rw [aH hi,hy,ae,ak (by simp only [bI,bS];omega)];rfl
  ·have hi:=(bf hy).1;simp only [show ((i:Int)<(L.length:Int)) from by omega,decide_true,ai];rw [aH hi,hy,ae,bV (by omega)];by_cases bP:(y.length:Int)=(k:Int)
   case neg=>unfold pL;rw [aA bP];rfl
   rw [ak bP,bC,ax];have hz:(y.zipIdx).length=y.length:=XY;rw [vR y.zipIdx (by omega) (fun j (t:aa Ed)=>t.length<=12*i+j) (fun s p=>if aY p.1 0 (p.2:Int)=true then some (if p.1<(p.2:Int) then s++[(p.1,(p.2:Int))] else s) else none) (([],false):aa Int × Bool) (by omega) (fun i s y s' hy hs he=>by
    split at he
    ·cases he
     split
     ·simp;omega
     ·omega
    ·cases he) (fun self s j p hp hs => ?_) (fun self s hs=>by simp only [hz,show ¬((y.length:Int)<(k:Int)) from by omega,decide_false,ax])]
   ·rw [Br];have e1:pL k y=vP y:=by unfold pL;rw [ak bP,dZ]
    rw [e1];unfold vP Ri Ch;cases y.zipIdx.all fun p=>aY p.1 0 (p.2:Int) with
    | false=>rfl
    | true=>simp only [if_true,ae,ajN]
   ·obtain ⟨HY,Hm⟩:=Kb hp;have hj:=(bf HY).1;obtain ⟨x,v⟩:=p;simp only at HY Hm;subst Hm;simp only [show ((v:Int)<(k:Int)) from by omega,decide_true,ai];rw [bV (by omega)];simp only [aH hi,hy,ae,aH hj,HY,dM];cases hx:aY x 0 (v:Int) with
    | false=>rfl
    | true=>
     simp only [bC,ax,if_true];by_cases hxv:x<(v:Int)
     ·rw [ak hxv,ai,if_pos hxv,ak (by simp only [bI,bS];omega),ai];rfl
     ·rw [aA hxv,ax,if_neg hxv];rfl
abbrev NE:=Int × List Int × List (Int × Int) × List (List Int) × List Int × Int × Int × Int × Int × Int × Int × Int × List (Int × Int) × Int × List (Int × Int × Int × Int × Int × Int) × Int
theorem auH (L:aa (aa Int)) (s:Hd):L.foldl (fun (s:Hd) y=>(s.1,s.2.1,s.2.2.1,s.2.2.2.1++[y],s.2.2.2.2)) s=(s.1,s.2.1,s.2.2.1,s.2.2.2.1++L,s.2.2.2.2):=by
 induction L generalizing s with
 | nil=>simp
 | cons y L ih=>rw [gK,ih];simp
theorem AA (l:aa Int) (h:l.length<=1048576):mF l=some (l,()):=by
 show Am BIG _=_;rw [UI,ak (by omega)];rfl
theorem VP (x0:Int) (x1:aa Int) (x2:aa Ed) (x3:aa (aa Int)) (x4:aa Int) (x5 x6 x7 x8 x9 x10 x11:Int) (x12:aa Ed) (x13:Int) (x14:aa Sd) (h1:x1.length<=1048576) (h2:x2.length<=1048576) (h3:x3.length<=1048576/\∀y,y∈x3->y.length<=1048576) (h4:x4.length<=1048576) (dQ:x12.length<=1048576) (nI:x14.length<=1048576) :
  Ap (x0,x1,x2,x3,x4,x5,x6,x7,x8,x9,x10,x11,x12,x13,x14)=some ((x0,x1,x2,x3,x4,x5,x6,x7,x8,x9,x10,x11,x12,x13,x14),()):=by
 have hm:maxLen=9223372036854775807:=by decide
 show II BIG _=_;rw [alJ];dsimp only;have ht:IG (x5,x6,x7,x8,x9,x10,x11,x12,x13)=some ((x5,x6,x7,x8,x9,x10,x11,x12,x13),()):=by
  show IE BIG _=_;rw [alH,Fx x12 dQ];rfl
 rw [AA x1 h1,ae,Fx x2 h2,ae,AA x4 h4,ae,ht,ae,ak (by omega),ai];rw [jY x3 (by omega) (fun i (s:Hd)=>s.2.2.2.1.length=i) (fun (s:Hd) y=>(s.1,s.2.1,s.2.2.1,s.2.2.2.1++[y],s.2.2.2.2)) id rfl (fun i s y _ h=>by simp only [dR,bI,bS];omega) (fun self s i y hy hs => ?_) (fun self s _=>by simp)]
 ·rw [auH];simp
 ·have hi:=(bf hy).1;simp only [show ((i:Int)<(x3.length:Int)) from by omega,decide_true,ai];rw [aH hi,hy,ae,AA y (h3.2 y (eZ hy)),ae,ak (by simp only [bI,bS];omega),ai,bV (by omega)]
theorem De (x0:Int) (x1:aa Int) (x2:aa Ed) (x3:aa (aa Int)) (x4:aa Int) (x5 x6 x7 x8 x9 x10 x11:Int) (x12:aa Ed) (x13:Int) (x14:aa Sd) (h1:x1.length<=1048576) (h2:x2.length<=1048576) (h3:x3.length<=1048576/\∀y,y∈x3->y.length<=1048576) (h4:x4.length<=1048576) (dQ:x12.length<=1048576) (nI:x14.length<=1048576) :
  og (x0,x1,x2,x3,x4,x5,x6,x7,x8,x9,x10,x11,x12,x13,x14)=some ((x0,x1,x2,x3,x4,x5,x6,x7,x8,x9,x10,x11,x12,x13,x14),()):=by
 have hm:maxLen=9223372036854775807:=by decide
 show K6 BIG _=_;rw [apR];dsimp only;have ho:xA (x10,x11,x12,x13)=some ((x10,x11,x12,x13),()):=by
  show xz BIG _=_;rw [Y7,ak (by simp;omega)];rfl
 rw [ak (by simp;omega),ai,ak (by simp;omega),ai,ak (by simp;omega),ai,ak (by simp;omega),ai];rw [jY x3 (by omega) (fun i (s:aa (aa Int))=>s.length=i) (fun s y=>s++[y]) id rfl (fun i s y _ h=>by simp only [dR,bI,bS];omega) (fun self s i y hy hs => ?_) (fun self s _=>by simp)]
 ·rw [ae,ho,ae];have hf:∀(L s:aa (aa Int)),L.foldl (fun s y=>s++[y]) s=s++L:=by
   intro L;induction L with
   | nil=>intro s;simp
   | cons y L ih=>intro s;rw [gK,ih];simp
  rw [hf];simp
 ·have hi:=(bf hy).1;have hy3:=h3.2 y (eZ hy);simp only [show ((i:Int)<(x3.length:Int)) from by omega,decide_true,ai];rw [aH hi,hy,ae,ak (by simp;omega),ai,ak (by simp only [bI,bS];omega),ai,bV (by omega),gX]
def Fy (x0:Int) (x1:aa Int) (x2:aa Ed) (x3:aa (aa Int)) (x4:aa Int) (x14:aa Sd) (i op a b v:Int):NE:=(x0,x1,x2,x3,x4,0,0,0,0,0,0,0,[],0,x14++[(i,i,op,a,b,v)],1)
def arb (x0:Int) (x1:aa Int) (x2:aa Ed) (x3:aa (aa Int)) (x4:aa Int) (x14:aa Sd) (i op a b sh o:Int) (es:aa Ed) (v:Int):NE:=(x0,x1,x2,x3,x4,i,op,a,b,sh,x4.getD (sh-1).toNat 0+1,o,es,v,x14,2)
def tkE (x0:Int) (x1:aa Int) (x2:aa Ed) (x3:aa (aa Int)) (x4:aa Int) (x14:aa Sd) (i op a b:Int):NE:=
 if x1.getD (gJ a b).1.toNat 0=x1.getD (gJ a b).2.toNat 0 then arb x0 x1 x2 x3 x4 x14 i op a b (x1.getD (gJ a b).1.toNat 0) (if op=2 then 2 else 1) [gJ a b] 0
 else if (decide (gJ a b∈x2) == decide (op=1))=true then Fy x0 x1 x2 x3 x4 x14 i op a b 2
 else Fy x0 x1 (if gJ a b∈x2 then del x2 (gJ a b) else ins x2 (gJ a b)) x3 x4 x14 i op a b 1
def VQ (x0:Int) (x1:aa Int) (x2:aa Ed) (x3:aa (aa Int)) (x4:aa Int) (x14:aa Sd) (i op a b:Int):NE:=
 if wC x0 x3.length op a b=false then Fy x0 x1 x2 x3 x4 x14 i op a b 3
 else if op=3 then Fy x0 x1 x2 x3 x4 x14 i op a b (if (Ci x0 x3 x2).1.getD a.toNat 0=(Ci x0 x3 x2).1.getD b.toNat 0 then 1 else 2)
 else if op=4 then (if x1.getD a.toNat 0=b then Fy x0 x1 x2 x3 x4 x14 i op a b 2 else arb x0 x1 x2 x3 x4 x14 i op a b (x1.getD a.toNat 0) 3 [] a)
 else tkE x0 x1 x2 x3 x4 x14 i op a b
structure HdF (x0:Int) (x1:List Int) (x2:List Ed) (x3:List (List Int)) (x4:List Int) (x14:List Sd):Prop where
 n:1<=x0/\x0<=12
 k:1<=x3.length/\x3.length<=3
 nums:x4.length=x3.length
 own:(x1.length:Int)=x0
 cuts:mG x0 x2=true
 said:x14.length<=80
 o1:∀i,i<x1.length->1<=x1.getD i 0/\x1.getD i 0<=x3.length
 o3:∀i,i<x3.length->sH x0 (x3.getD i [])=true/\0<=x4.getD i 0/\x4.getD i 0<=99991
theorem aBX {x0:Int} {x1:aa Int} {x2:aa Ed} {x3:aa (aa Int)} {x4:aa Int} {x14:aa Sd} {t:Bool} (h:uH x0 x1 x2 x3 x4 x14 t=true):HdF x0 x1 x2 x3 x4 x14/\t=true:=by
 unfold uH at h;have h':=of_decide_eq_true h;obtain ⟨⟨a1,a2,a3⟩,a4,⟨a5,a6⟩,a7,a8,⟨a9,a10⟩,a11⟩:=h';rw [aW] at a1 a2;refine ⟨⟨a1,by omega,a3,a5,a6,a10,fun i hi => ?_,fun i hi => ?_⟩,a11⟩
 ·have:=a7 i hi;unfold p1 at this;rw [aW] at this;exact this
 ·have:=a4 i hi;unfold p3 at this;rw [aU,aW] at this;exact this
theorem aDQ {n:Int} {l:aa Int} (h:sH n l=true):pL n l=true:=by
 unfold sH at h;split at h;case isFalse=>cases h
 case isTrue hn=>
 split at h;case isFalse=>cases h
 case isTrue hp=>
 unfold pL;rw [ak hn,dZ];unfold vP;rw [bX];intro p kJ;obtain ⟨i,hi,rfl⟩:=wJ kJ;obtain ⟨h1,h2⟩:=Kb (aT hi);rw [XY] at hi;have h3:=hp i hi;unfold lbP at h3;rw [h1] at h3;simp only [aU] at h3;rw [h2];exact h3.1
theorem HdF.wl {x0:Int} {x1:aa Int} {x2:aa Ed} {x3:aa (aa Int)} {x4:aa Int} {x14:aa Sd} (h:HdF x0 x1 x2 x3 x4 x14):wlB x0 x3 x2=true:=by
 unfold wlB;rw [aW.2 h.n,ak h.k.2,dZ,dZ,aU,bX,bX];refine ⟨fun l hl => ?_,(lw h.cuts).1⟩;obtain ⟨i,hi,rfl⟩:=wJ hl;have:=(h.o3 i hi).1;rw [gD (aT hi)] at this;exact aDQ this
theorem HdF.wl_len {x0:Int} {x1:aa Int} {x2:aa Ed} {x3:aa (aa Int)} {x4:aa Int} {x14:aa Sd} (h:HdF x0 x1 x2 x3 x4 x14):((Ci x0 x3 x2).1.length:Int)=x0:=by
 unfold Ci;rw [if_pos h.wl];have:=h.n;simp only [dV];omega
section
variable {x0:Int} {x1:aa Int} {x2:aa Ed} {x3:aa (aa Int)} {x4:aa Int} {x14:aa Sd}
theorem jm (x5 x6 x7 x8 x9 x10 x11:Int) (x12:aa Ed) (x13:Int) (i op a b v:Int) (h:x14.length<=1048576):iq ((x0,x1,x2,x3,x4,x5,x6,x7,x8,x9,x10,x11,x12,x13,x14),(i,op,a,b),v)=some (1,(x0,x1,x2,x3,x4,x5,x6,x7,x8,x9,x10,x11,x12,x13,x14++[(i,i,op,a,b,v)])):=by
 show IM BIG _=_;rw [alN];dsimp only;rw [ak (by simp only [bI,bS];omega),ai]
theorem mH (x5 x6 x7 x8 x9 x10 x11:Int) (x12:aa Ed) (x13:Int) (i op a b v:Int) (h:x14.length<=1048576):pI ((x0,x1,x2,x3,x4,x5,x6,x7,x8,x9,x10,x11,x12,x13,x14),(i,op,a,b),v)=some ((),(x0,x1,x2,x3,x4,0,0,0,0,0,0,0,[],0,x14++[(i,i,op,a,b,v)])):=by
 show Pf BIG _=_;rw [atA];dsimp only;rw [ak (by simp only [bI,bS];omega),ai]
theorem HdF.num (h:HdF x0 x1 x2 x3 x4 x14) {sh:Int} (h1:1<=sh) (h2:sh<=x3.length):IntKind.wrap .i64 (sh-1)=sh-1/\0<=sh-1/\sh-1<x4.length/\x4[(sh-1).toNat]?=some (x4.getD (sh-1).toNat 0)/\IntKind.wrap .i64 (x4.getD (sh-1).toNat 0+1)=x4.getD (sh-1).toNat 0+1:=by
 have hk:=h.k;have hn:=h.nums;have h3:=h.o3 (sh-1).toNat (by omega);exact ⟨wr (by omega) (by omega),by omega,by omega,getD_at (by omega),wr (by omega) (by omega)⟩
theorem BQ (h:HdF x0 x1 x2 x3 x4 x14) (x5 x6 x7 x8 x9 x10 x11:Int) (x12:aa Ed) (x13:Int) (i op a b sh q o:Int) (es:aa Ed) (v:Int) (h1:1<=sh) (h2:sh<=x3.length):lK ((x0,x1,x2,x3,x4,x5,x6,x7,x8,x9,x10,x11,x12,x13,x14),(i,op,a,b),sh,(q,o,es,v))=some (2,(x0,x1,x2,x3,x4,i,op,a,b,sh,x4.getD (sh-1).toNat 0+1,o,es,v,x14)):=by
 obtain ⟨g1,g2,g3,g4,g5⟩:=h.num h1 h2;show uS BIG _=_;rw [Nt];dsimp only;rw [g1,bW g2 g3,g4,ae,g5]
theorem abn (h:HdF x0 x1 x2 x3 x4 x14) (x5 x6 x7 x8 x9 x10 x11:Int) (x12:aa Ed) (x13:Int) (i op a b sh q o:Int) (es:aa Ed) (v:Int) (h1:1<=sh) (h2:sh<=x3.length):CO ((x0,x1,x2,x3,x4,x5,x6,x7,x8,x9,x10,x11,x12,x13,x14),(i,op,a,b),sh,(q,o,es,v))=some (2,(x0,x1,x2,x3,x4,i,op,a,b,sh,x4.getD (sh-1).toNat 0+1,o,es,v,x14)):=by
 obtain ⟨g1,g2,g3,g4,g5⟩:=h.num h1 h2;show Lc BIG _=_;rw [apZ];dsimp only;rw [g1,bW g2 g3,g4,ae,g5]
theorem HdF.at (h:HdF x0 x1 x2 x3 x4 x14) {v:Int} (h1:0<=v) (h2:v<=x0-1):v<x1.length/\x1[v.toNat]?=some (x1.getD v.toNat 0)/\1<=x1.getD v.toNat 0/\x1.getD v.toNat 0<=x3.length:=by
 have ho:=h.own;have:=h.o1 v.toNat (by omega);exact ⟨by omega,getD_at (by omega),this.1,this.2⟩
theorem auI {a b n:Int} (ha:0<=a/\a<=n) (hb:0<=b/\b<=n):(0<=(gJ a b).1/\(gJ a b).1<=n)/\(0<=(gJ a b).2/\(gJ a b).2<=n):=by
 unfold gJ;split<;>exact ⟨by simpa,by simpa⟩
def G6:NE->Int × Hd:=fun h=>(h.2.2.2.2.2.2.2.2.2.2.2.2.2.2.2,(h.1,h.2.1,h.2.2.1,h.2.2.2.1,h.2.2.2.2.1,h.2.2.2.2.2.1,h.2.2.2.2.2.2.1,h.2.2.2.2.2.2.2.1,h.2.2.2.2.2.2.2.2.1,h.2.2.2.2.2.2.2.2.2.1,h.2.2.2.2.2.2.2.2.2.2.1,h.2.2.2.2.2.2.2.2.2.2.2.1,h.2.2.2.2.2.2.2.2.2.2.2.2.1,h.2.2.2.2.2.2.2.2.2.2.2.2.2.1,h.2.2.2.2.2.2.2.2.2.2.2.2.2.2.1))
theorem ajO (h:HdF x0 x1 x2 x3 x4 x14) (i op a b:Int) (lU:op=1\/op=2) (ha:0<=a/\a<=x0-1) (hb:0<=b/\b<=x0-1):EH ((x0,x1,x2,x3,x4,0,0,0,0,0,0,0,[],0,x14),(i,op,a,b))=some (G6 (tkE x0 x1 x2 x3 x4 x14 i op a b)):=by
 have hm:maxLen=9223372036854775807:=by decide
 have ko:=j_ h.cuts;have ui:=h.said;obtain ⟨e1,e2⟩:=auI ha hb;obtain ⟨g1,g2,g3,g4⟩:=h.at e1.1 e1.2;obtain ⟨k1,k2,k3,k4⟩:=h.at e2.1 e2.2;show EG BIG _=_;rw [aiW];dsimp only;rw [auz,ae,MC _ _ (by omega),ae];dsimp only;unfold tkE;generalize gJ a b=e at *
 simp only [bW e1.1 g1,g2,ae,bW e2.1 k1,k2];generalize hp:x1.getD e.1.toNat 0=p at *
 generalize hq:x1.getD e.2.toNat 0=q at *
 by_cases hpq:p=q
 ·subst hpq;rcases lU with rfl|rfl
  ·simp only [decide_true,ai,ae,if_true];rw [BQ h _ _ _ _ _ _ _ _ _ _ _ _ _ _ _ _ _ _ g3 g4];rfl
  ·simp only [decide_true,ai,ae,if_true,show decide ((2:Int)=1)=false from rfl,ax];rw [BQ h _ _ _ _ _ _ _ _ _ _ _ _ _ _ _ _ _ _ g3 g4];rfl
 ·simp only [aA hpq,ax,ae,if_neg hpq];by_cases bq:e∈x2
  ·rcases lU with rfl|rfl
   ·simp only [ak bq,decide_true,ai,bC,ae,ax,show decide ((1:Int)=2)=false from rfl,beq_self_eq_true,if_true];rw [jm _ _ _ _ _ _ _ _ _ _ _ _ _ _ (by omega)];rfl
   ·simp only [ak bq,decide_true,ai,bC,ae,ax,show decide ((2:Int)=1)=false from rfl,show (true == false)=false from rfl,iP,if_false,if_pos bq];rw [Ka _ _ (by omega),ae,jm _ _ _ _ _ _ _ _ _ _ _ _ _ _ (by omega)];rfl
  ·rcases lU with rfl|rfl
   ·simp only [aA bq,decide_true,ai,ib,ae,ax,show (false == true)=false from rfl,iP,if_false,if_neg bq];rw [Jc _ _ (by omega),acQ (lw h.cuts).2.1 bq,ae,jm _ _ _ _ _ _ _ _ _ _ _ _ _ _ (by omega)];rfl
   ·simp only [aA bq,decide_true,ai,ib,ae,ax,show decide ((2:Int)=1)=false from rfl,beq_self_eq_true,if_true];rw [jm _ _ _ _ _ _ _ _ _ _ _ _ _ _ (by omega)];rfl
theorem ajP (h:HdF x0 x1 x2 x3 x4 x14) (i op a b:Int) (lU:op=1\/op=2) (ha:0<=a/\a<=x0-1) (hb:0<=b/\b<=x0-1):Em ((x0,x1,x2,x3,x4,0,0,0,0,0,0,0,[],0,x14),(i,op,a,b))=some (G6 (tkE x0 x1 x2 x3 x4 x14 i op a b)):=by
 have hm:maxLen=9223372036854775807:=by decide
 have ko:=j_ h.cuts;have ui:=h.said;obtain ⟨e1,e2⟩:=auI ha hb;obtain ⟨g1,g2,g3,g4⟩:=h.at e1.1 e1.2;obtain ⟨k1,k2,k3,k4⟩:=h.at e2.1 e2.2;show El BIG _=_;rw [aik];dsimp only;rw [ara,ae];dsimp only;unfold tkE;generalize gJ a b=e at *
 have hx:(bif decide (op=(2:Int)) then some (2:Int) else some (1:Int))=some (if op=2 then 2 else 1):=by
  rcases lU with rfl|rfl<;>rfl
 rw [hx,ae];simp only [bW e1.1 g1,g2,ae,bW e2.1 k1,k2];generalize hp:x1.getD e.1.toNat 0=p at *
 generalize hq:x1.getD e.2.toNat 0=q at *
 by_cases hpq:p=q
 ·subst hpq;simp only [decide_true,ai,if_true];rw [abn h _ _ _ _ _ _ _ _ _ _ _ _ _ _ _ _ _ _ g3 g4];rfl
 ·simp only [aA hpq,ax,if_neg hpq];rw [Bp _ _ (by omega),ae];cases hc:(decide (e∈x2) == decide (op=1)) with
  | true=>
   simp only [ai,if_true];rw [mH _ _ _ _ _ _ _ _ _ _ _ _ _ _ (by omega)];rfl
  | false=>
   simp only [ax,iP,if_false];by_cases bq:e∈x2
   ·simp only [ak bq,ai,if_pos bq];rw [ND _ _ (by omega),ae,ae,mH _ _ _ _ _ _ _ _ _ _ _ _ _ _ (by omega)];rfl
   ·simp only [aA bq,ax,if_neg bq];rw [Q9 _ _ (by omega),ae,ae,mH _ _ _ _ _ _ _ _ _ _ _ _ _ _ (by omega)];rfl
theorem agE {n:Int} {k:Nat} {op a b:Int} (h:wC n k op a b=true):(1<=op/\op<=4)/\(0<=a/\a<=n-1)/\(op=4->1<=b/\b<=k)/\(op≠4->0<=b/\b<=n-1):=by
 unfold wC at h;simp only [aU,aW] at h;refine ⟨h.1,h.2.1,fun h4 => ?_,fun h4 => ?_⟩
 ·have:=h.2.2;rw [ak h4,ai,aW] at this;exact this
 ·have:=h.2.2;rw [aA h4,ax,aU,aW] at this;exact this.1
theorem ajQ (h:HdF x0 x1 x2 x3 x4 x14) (i op a b:Int):EL ((x0,x1,x2,x3,x4,0,0,0,0,0,0,0,[],0,x14),(i,op,a,b))=some (G6 (VQ x0 x1 x2 x3 x4 x14 i op a b)):=by
 have hm:maxLen=9223372036854775807:=by decide
 have ko:=j_ h.cuts;have ui:=h.said;have hk:=h.k;show EJ BIG _=_;rw [aiY];dsimp only;rw [afy _ _ _ _ _ _ _ _ _ _ _ _ _ _ _ _ _ _ _ h.n,ae];unfold VQ;cases hr:wC x0 x3.length op a b with
 | false=>
  simp only [ib,ai,if_true];rw [jm _ _ _ _ _ _ _ _ _ _ _ _ _ _ (by omega)];rfl
 | true=>
  obtain ⟨r1,r2,r3,r4⟩:=agE hr;simp only [bC,ax,Bool.true_eq_false,if_false];by_cases h3:op=3
  ·subst h3;have hb:=r4 (by omega);have hl:=h.wl_len;simp only [decide_true,ai,if_true];have Ht:a.toNat<(Ci x0 x3 x2).1.length:=by omega
   have cO:b.toNat<(Ci x0 x3 x2).1.length:=by omega
   rw [acV _ _ _ (by omega) (by omega),ae];dsimp only;rw [bW r2.1 (by omega),getD_at Ht,ae,bW hb.1 (by omega),getD_at cO,ae,ajI,ae];rw [jm _ _ _ _ _ _ _ _ _ _ _ _ _ _ (by omega)];simp only [decide_eq_true_eq];rfl
  ·simp only [aA h3,ax,if_neg h3];by_cases h4:op=4
   ·subst h4;obtain ⟨g1,g2,g3,g4⟩:=h.at r2.1 r2.2;simp only [decide_true,ai,if_true,bW r2.1 g1,g2,ae];by_cases d_:x1.getD a.toNat 0=b
    ·rw [ak d_,if_pos d_,ai,jm _ _ _ _ _ _ _ _ _ _ _ _ _ _ (by omega)];rfl
    ·rw [aA d_,if_neg d_,ax,BQ h _ _ _ _ _ _ _ _ _ _ _ _ _ _ _ _ _ _ g3 g4];rfl
   ·simp only [aA h4,ax,ae,if_neg h4];rw [ajO h i op a b (by omega) r2 (r4 h4)];rfl
end
noncomputable def Fz (x0:Int) (x1:aa Int) (x2:aa Ed) (x3:aa (aa Int)) (x4:aa Int) (x5 x6 x7 x8 x9 x10 x11:Int) (x12:aa Ed) (x13:Int) (x14:aa Sd) (i:Int):Bool:=
 uH x0 x1 x2 x3 x4 x14 (sI x0 x3.length x4 x14 x5 x6 x7 x8 x9 (x10,x11,x12,x13))&&(aY i 1 100000&&(!decide (0<=sA x14 i)&&(decide (x9=0) && !decide ((80:Int)<=(x14.length:Int)))))
noncomputable def VR (x0:Int) (x1:aa Int) (x2:aa Ed) (x3:aa (aa Int)) (x4:aa Int) (x5 x6 x7 x8 x9 x10 x11:Int) (x12:aa Ed) (x13:Int) (x14:aa Sd) (i op a b:Int):NE:=
 if Fz x0 x1 x2 x3 x4 x5 x6 x7 x8 x9 x10 x11 x12 x13 x14 i=true then VQ x0 x1 x2 x3 x4 x14 i op a b else (x0,x1,x2,x3,x4,x5,x6,x7,x8,x9,x10,x11,x12,x13,x14,0)
theorem SG {x0:Int} {x1:aa Int} {x2:aa Ed} {x3:aa (aa Int)} {x4:aa Int} {x5 x6 x7 x8 x9 x10 x11:Int} {x12:aa Ed} {x13:Int} {x14:aa Sd} {i:Int} (h:Fz x0 x1 x2 x3 x4 x5 x6 x7 x8 x9 x10 x11 x12 x13 x14 i=true) :
  HdF x0 x1 x2 x3 x4 x14/\x5=0/\x6=0/\x7=0/\x8=0/\x9=0/\x10=0/\x11=0/\x12=[]/\x13=0:=by
 unfold Fz at h;simp only [aU,decide_eq_true_eq] at h;obtain ⟨h1,h2,h3,h4,h5⟩:=h;obtain ⟨hF,ht⟩:=aBX h1;subst h4;unfold sI at ht;rw [iE] at ht;rcases ht with ht|ht
 ·unfold tB blQ blO at ht;simp only [aU,decide_eq_true_eq] at ht;obtain ⟨⟨b1,b2,b3,b4⟩,_,c1,c2,c3,c4⟩:=ht;exact ⟨hF,b1,b2,b3,b4,rfl,c1,c2,qW.1 c3,c4⟩
 ·simp only [aU,aW] at ht;omega
section
variable (x0:Int) (x1:aa Int) (x2:aa Ed) (x3:aa (aa Int)) (x4:aa Int) (x5 x6 x7 x8 x9 x10 x11:Int) (x12:aa Ed) (x13:Int) (x14:aa Sd) (i op a b:Int) (h1:x1.length<=1048576) (h2:x2.length<=1048576) (h3:x3.length<=1048576/\∀y,y∈x3->y.length<=1048576) (h4:x4.length<=1048576) (dQ:x12.length<=1048576) (nI:x14.length<=1048576)
include h1 h2 h3 h4 dQ nI
theorem az8:Dq ((x0,x1,x2,x3,x4,x5,x6,x7,x8,x9,x10,x11,x12,x13,x14),(i,op,a,b))=some (VR x0 x1 x2 x3 x4 x5 x6 x7 x8 x9 x10 x11 x12 x13 x14 i op a b,()):=by
 show acL BIG _=_;rw [azW,VP x0 x1 x2 x3 x4 x5 x6 x7 x8 x9 x10 x11 x12 x13 x14 h1 h2 h3 h4 dQ nI,ae];dsimp only;rw [Re x0 x1 x2 x3 x4 x5 x6 x7 x8 x9 x10 x11 x12 x13 x14 h1 h2 h3 dQ nI,jd,Rb x14 i nI,aoe];have hx:(Option.bind (some (uH x0 x1 x2 x3 x4 x14 (sI x0 x3.length x4 x14 x5 x6 x7 x8 x9 (x10,x11,x12,x13)),())) fun r1:Bool × Unit=>
   bif !r1.1 then some true else Option.bind (some (aY i 1 100000,())) fun r2:Bool × Unit=>bif !r2.1 then some true else Option.bind (some (sA x14 i,())) fun r3:Int × Unit=>bif decide ((0:Int)<=r3.1) then some true else Option.bind (some (!decide (x9=0),())) fun r4:Bool × Unit=>bif r4.1 then some true else some (decide ((80:Int)<=(x14.length:Int))))=some (!Fz x0 x1 x2 x3 x4 x5 x6 x7 x8 x9 x10 x11 x12 x13 x14 i):=by
  unfold Fz;simp only [ae];cases uH x0 x1 x2 x3 x4 x14 (sI x0 x3.length x4 x14 x5 x6 x7 x8 x9 (x10,x11,x12,x13))<;>cases aY i 1 100000<;>cases decide ((0:Int)<=sA x14 i)<;>cases decide (x9=0)<;>cases decide ((80:Int)<=(x14.length:Int))<;>rfl
 refine (congrArg (fun o=>Option.bind o _) hx).trans ?_;unfold VR;cases aV:Fz x0 x1 x2 x3 x4 x5 x6 x7 x8 x9 x10 x11 x12 x13 x14 i with
 | false=>rfl
 | true=>
  obtain ⟨hF,rfl,rfl,rfl,rfl,rfl,rfl,rfl,rfl,rfl⟩:=SG aV;simp only [bC,ae,ax,if_true];rw [ajQ hF];rfl
theorem az9:Dp ((x0,x1,x2,x3,x4,x5,x6,x7,x8,x9,x10,x11,x12,x13,x14),(i,op,a,b))=some (VR x0 x1 x2 x3 x4 x5 x6 x7 x8 x9 x10 x11 x12 x13 x14 i op a b,()):=by
 have hm:maxLen=9223372036854775807:=by decide
 show acy BIG _=_;rw [azP,De x0 x1 x2 x3 x4 x5 x6 x7 x8 x9 x10 x11 x12 x13 x14 h1 h2 h3 h4 dQ nI,ae];dsimp only;rw [Rf x0 x1 x2 x3 x4 x5 x6 x7 x8 x9 x10 x11 x12 x13 x14 h1 h2 h3 dQ nI,dM,MH x0 x1 x2 x3 x4 x5 x6 x7 x8 x9 x10 x11 x12 x13 x14 i nI,acR];have hx:(Option.bind (some (uH x0 x1 x2 x3 x4 x14 (sI x0 x3.length x4 x14 x5 x6 x7 x8 x9 (x10,x11,x12,x13)),())) fun r1:Bool × Unit=>
   bif !r1.1 then some true else Option.bind (some (aY i 1 100000,())) fun r2:Bool × Unit=>bif !r2.1 then some true else Option.bind (some (sA x14 i,())) fun r3:Int × Unit=>bif decide ((0:Int)<=r3.1) then some true else Option.bind (some (!decide (x9=0),())) fun r4:Bool × Unit=>bif r4.1 then some true else some (decide ((80:Int)<=(x14.length:Int))))=some (!Fz x0 x1 x2 x3 x4 x5 x6 x7 x8 x9 x10 x11 x12 x13 x14 i):=by
  unfold Fz;simp only [ae];cases uH x0 x1 x2 x3 x4 x14 (sI x0 x3.length x4 x14 x5 x6 x7 x8 x9 (x10,x11,x12,x13))<;>cases aY i 1 100000<;>cases decide ((0:Int)<=sA x14 i)<;>cases decide (x9=0)<;>cases decide ((80:Int)<=(x14.length:Int))<;>rfl
 refine (congrArg (fun o=>Option.bind o _) hx).trans ?_;unfold VR;cases aV:Fz x0 x1 x2 x3 x4 x5 x6 x7 x8 x9 x10 x11 x12 x13 x14 i with
 | false=>rfl
 | true=>
  obtain ⟨hF,rfl,rfl,rfl,rfl,rfl,rfl,rfl,rfl,rfl⟩:=SG aV;have ko:=j_ hF.cuts;have ui:=hF.said;have hk:=hF.k;simp only [bC,ae,ax,if_true];rw [VO _ _ _ _ _ _ _ _ _ _ _ _ _ _ _ _ _ _ _ hF.n,ae];unfold VQ;cases hr:wC x0 x3.length op a b with
  | false=>
   simp only [ib,ai,if_true];rw [mH _ _ _ _ _ _ _ _ _ _ _ _ _ _ (by omega)];rfl
  | true=>
   obtain ⟨r1,r2,r3,r4⟩:=agE hr;simp only [bC,ax,Bool.true_eq_false,if_false];by_cases h3':op=3
   ·subst h3';have hb:=r4 (by omega);have hl:=hF.wl_len;simp only [decide_true,ai,if_true];have Ht:a.toNat<(Ci x0 x3 x2).1.length:=by omega
    have cO:b.toNat<(Ci x0 x3 x2).1.length:=by omega
    rw [acW _ _ _ (by omega) (by omega),if_pos (by omega),ae];dsimp only;rw [bW r2.1 (by omega),getD_at Ht,ae,bW hb.1 (by omega),getD_at cO,ae];by_cases d_:(Ci x0 x3 x2).1.getD a.toNat 0=(Ci x0 x3 x2).1.getD b.toNat 0
    ·rw [ak d_,if_pos d_,ai,ae,mH _ _ _ _ _ _ _ _ _ _ _ _ _ _ (by omega)];rfl
    ·rw [aA d_,if_neg d_,ax,ae,mH _ _ _ _ _ _ _ _ _ _ _ _ _ _ (by omega)];rfl
   ·simp only [aA h3',ax,if_neg h3'];by_cases h4':op=4
    ·subst h4';obtain ⟨g1,g2,g3,g4⟩:=hF.at r2.1 r2.2;simp only [decide_true,ai,if_true,bW r2.1 g1,g2,ae];by_cases d_:x1.getD a.toNat 0=b
     ·rw [ak d_,if_pos d_,ai,mH _ _ _ _ _ _ _ _ _ _ _ _ _ _ (by omega)];rfl
     ·rw [aA d_,if_neg d_,ax,abn hF _ _ _ _ _ _ _ _ _ _ _ _ _ _ _ _ _ _ g3 g4];rfl
    ·simp only [aA h4',ax,if_neg h4'];rw [ajP hF i op a b (by omega) r2 (r4 h4')];rfl
end
theorem abo (l:aa Ed) (e:Ed):(del l e).length<=l.length:=qX _ _
theorem ajR {α:Type} (p q:α->Bool) (h:∀x,p x=true->q x=true->False):∀l:aa α,(l.filter p).length+(l.filter q).length<=l.length
 | []=>by simp
 | x::l=>by
  have ih:=ajR p q h l;rw [Kw,Kw,bI];cases hp:p x<;>cases hq:q x<;>simp only [iP,if_false,if_true,bI]<;>first
   | omega
   | exact absurd hq (fun hq=>h x hp hq)
theorem abp (l:aa Ed) (e:Ed):(ins l e).length<=l.length+1:=by
 unfold ins;have:=ajR (fun y=>lsB y e) (fun y=>lsB e y) (fun x h1 h2=>by
  simp only [lsB,iE,aU,decide_eq_true_eq] at h1 h2
  omega) l
 simp only [dR,bI,bS];omega
theorem az_ (x0:Int) (x1:aa Int) (x2:aa Ed) (x3:aa (aa Int)) (x4:aa Int) (x14:aa Sd) (i op a b:Int) :
  ∃(c:aa Ed) (t1 t2 t3 t4 t5 t6 t7:Int) (t8:aa Ed) (t9:Int) (s:aa Sd) (m:Int),VQ x0 x1 x2 x3 x4 x14 i op a b=(x0,x1,c,x3,x4,t1,t2,t3,t4,t5,t6,t7,t8,t9,s,m)/\c.length<=x2.length+1/\t8.length<=1/\s.length<=x14.length+1:=by
 have say:∀(c:aa Ed) (v:Int),c.length<=x2.length+1->∃(c':aa Ed) (t1 t2 t3 t4 t5 t6 t7:Int) (t8:aa Ed) (t9:Int) (s:aa Sd) (m:Int),Fy x0 x1 c x3 x4 x14 i op a b v=(x0,x1,c',x3,x4,t1,t2,t3,t4,t5,t6,t7,t8,t9,s,m)/\c'.length<=x2.length+1/\t8.length<=1/\s.length<=x14.length+1:=fun c v hc=>⟨_,_,_,_,_,_,_,_,_,_,_,_,rfl,hc,by simp,by simp⟩
 have ord:∀(sh o:Int) (es:aa Ed) (v:Int),es.length<=1->∃(c':aa Ed) (t1 t2 t3 t4 t5 t6 t7:Int) (t8:aa Ed) (t9:Int) (s:aa Sd) (m:Int),arb x0 x1 x2 x3 x4 x14 i op a b sh o es v=(x0,x1,c',x3,x4,t1,t2,t3,t4,t5,t6,t7,t8,t9,s,m)/\c'.length<=x2.length+1/\t8.length<=1/\s.length<=x14.length+1:=fun sh o es v hc=>⟨_,_,_,_,_,_,_,_,_,_,_,_,rfl,by omega,hc,by omega⟩
 unfold VQ tkE;split
 ·exact say _ _ (by omega)
 ·split
  ·exact say _ _ (by omega)
  ·split
   ·split
    ·exact say _ _ (by omega)
    ·exact ord _ _ _ _ (by simp)
   ·split
    ·exact ord _ _ _ _ (by simp)
    ·split
     ·exact say _ _ (by omega)
     ·refine say _ _ ?_;split
      ·have:=abo x2 (gJ a b);omega
      ·exact abp _ _
theorem aAa {n k i:Nat} (h:i<n):(Jd n k)[i]?=some (1+((i % k:Nat):Int)):=by
 unfold Jd;rw [kM,RN h];rfl
theorem ajS (n k:Nat):(Jd n k).length=n:=by simp [Jd]
theorem dW {X B C:Type} {F:(X->ah B)->X->ah B} (I:X->Prop) (μ:X->Nat) (Q:X->B->Prop) (P:ah C->Prop) {x:X} {k:B->ah C} (hx:μ x<BIG) (hi:I x)
  (h:∀self x,I x->(∀y,I y->μ y<μ x->∃b,self y=some b/\Q y b)->∃b,F self x=some b/\Q x b) (hk:∀b,Q x b->P (k b)):P (Option.bind (aK BIG F x) k):=by
 obtain ⟨b,h1,h2⟩:=p_ (F:=F) I μ Q h hx hi;rw [h1];exact hk b h2
theorem amh (a b:aa Int) (ha:a.length<=maxLen):I4 (a,b)=some (decide (a=b),()):=by
 rw [<-tT a b ha];show I1 BIG _=oW BIG _;rw [alZ,zy];all_goals rfl
theorem ami (a b:aa Int) (ha:a.length<=maxLen):Ja (a,b)=some (decide (a=b),()):=by
 rw [<-tT a b ha];show I_ BIG _=oW BIG _;rw [al9,zy];all_goals rfl
theorem agl (a:aa Int) (ha:a.length<=1048576):∃p,uU a=some (p,())/\p.length=12/\∀x,x∈p->0<=x/\x<10000:=by
 have hm:maxLen=9223372036854775807:=by decide
 have e:uU a=BM BIG a:=rfl;rw [e,agb];obtain ⟨c,k,o⟩:=Ra a ha;obtain ⟨b,c1,k1,o1,_⟩:=x_ c o;rw [k,ae,k1,ae];refine dW (P:=fun o=>∃p:aa Int,o=some (p,())/\p.length=12/\∀x,x∈p->0<=x/\x<10000) (fun (x:aa Int × Bq × Int)=>∃i:Nat,x.2.2=(i:Int)/\i<=12/\x.1.length=i/\ky x.2.1/\∀y,y∈x.1->0<=y/\y<10000) (fun x=>12-x.2.2.toNat) (fun _ (b:aa Int)=>b.length=12/\∀x,x∈b->0<=x/\x<10000) (by simp [BIG]) ⟨0,rfl,by omega,rfl,o1,fun y hy=>by cases hy⟩ (fun self x ⟨i,h1,h2,h3,h4,h5⟩ hs => ?_) (fun b h=>⟨b,rfl,h⟩);obtain ⟨s,cu,j⟩:=x;simp only at h1 h3 h4 h5;subst h1;by_cases hi:i<12
 ·simp only [show ((i:Int)<12) from by omega,decide_true,ai];obtain ⟨r,c2,k2,o2,r0,r1,_⟩:=jl cu 10000 h4 (by decide);rw [k2,ae,ak (by simp only [bI,bS];omega),ai,bV (by omega)];refine hs _ ⟨i+1,rfl,hi,by simp only [dR,bI,bS];omega,o2,fun y hy => ?_⟩ (by simp;omega);simp only [bJ,cB] at hy;rcases hy with hy|rfl
  ·exact h5 y hy
  ·exact ⟨r0,r1 (by decide)⟩
 ·have:i=12:=by omega
  subst this;simp only [show ¬(((12:Nat):Int)<12) from by omega,decide_false,ax];exact ⟨_,rfl,h3,h5⟩
theorem auJ {l:aa Int} {v:Nat} {x:Int} (h:l[v]?=some x):(x,(v:Int))∈Ch l:=by
 unfold Ch;refine bY.2 ⟨(x,v),?_,rfl⟩;have:l.zipIdx[v]?=some (x,v):=by rw [List.getElem?_zipIdx,h];simp
 exact eZ this
theorem auK {l:aa Int} {e:Ed} (h:e∈Ch l):∃v:Nat,l[v]?=some e.1/\e.2=(v:Int):=by
 obtain ⟨p,hp,rfl⟩:=bY.1 h;obtain ⟨i,hi⟩:=List.mem_iff_getElem?.1 hp;obtain ⟨h1,h2⟩:=Kb hi;exact ⟨i,h1,by simp [h2]⟩
theorem aAb {n:Nat} {A:aa Ed} (h:o8 n A):pL (n:Int) (labs n A)=true:=by
 have hL:=lu h;unfold pL;rw [ak (by rw [dV]),dZ];unfold vP;rw [bX];intro p hp;obtain ⟨i,hi⟩:=List.mem_iff_getElem?.1 hp;obtain ⟨h1,h2⟩:=Kb hi;have:=hL.le h1;have:=hL.lt h1;rw [aW,h2];omega
theorem G7 {es:aa Ed} (h:uG es):es.Nodup:=by
 refine List.Pairwise.imp (fun {a b} d_ => ?_) h;rintro rfl;rw [abe] at d_;cases d_
theorem ajT:∀{A:aa Ed} {s s':aa Ed},fM Cg s A=some s'->s'=A.foldl ins s
 | [],s,s',h=>by simp only [fM,aO] at h;exact h.symm
 | e::A,s,s',h=>by
  rw [fM] at h;cases he:Cg s e with
  | none=>rw [he] at h;cases h
  | some s1=>
   rw [he] at h;obtain ⟨_,rfl⟩:=XB he;exact ajT (A:=A) (s:=ins s e) h
def qR (cuts es:aa Ed):aa Ed:=es.foldl ins cuts
def m_ (own:aa Int) (cuts es:aa Ed) (a b:Int):aa Ed:=(qR cuts es).filter (Fu (own.set a.toNat b) b)
def MJ (x0:Int) (x1:aa Int) (x2:aa Ed) (x3:aa (aa Int)) (x4:aa Int) (x14:aa Sd) (i op a b:Int) (es:aa Ed):NE:=
 if ∀e,e∈es->e∉x2 then
  (if (m_ x1 x2 es a b).length=0 then Fy x0 (x1.set a.toNat b) (qR x2 es) x3 x4 x14 i op a b 1
   else arb x0 (x1.set a.toNat b) ((m_ x1 x2 es a b).foldl del (qR x2 es)) x3 x4 x14 i op a b b 4 (m_ x1 x2 es a b) 0)
 else Fy x0 x1 x2 x3 x4 x14 i op a b 3
theorem XC (cuts:aa Ed):∀es:aa Ed,(qR cuts es).length<=cuts.length+es.length:=by
 unfold qR;intro es;induction es generalizing cuts with
 | nil=>simp
 | cons e es ih=>
  rw [gK,bI];have:=ih (ins cuts e);have:=abp cuts e;omega
theorem agm (l:aa Ed):∀cuts:aa Ed,(l.foldl del cuts).length<=cuts.length:=by
 induction l with
 | nil=>intro c;simp
 | cons e l ih=>
  intro c;rw [gK];have:=ih (del c e);have:=abo c e;omega
theorem aDR (x0:Int) (x1:aa Int) (x2:aa Ed) (x3:aa (aa Int)) (x4:aa Int) (x14:aa Sd) (x5 x6 x7 x8 x9 x10 x11:Int) (x12:aa Ed) (x13:Int) (i op a b sh q o:Int) (es:aa Ed) (v:Int) (hn:x4.length<=1000000) (h1:1<=sh) (h2:sh<=x4.length) (h3:0<=x4.getD (sh-1).toNat 0/\x4.getD (sh-1).toNat 0<=1000000):lK ((x0,x1,x2,x3,x4,x5,x6,x7,x8,x9,x10,x11,x12,x13,x14),(i,op,a,b),sh,(q,o,es,v))=some (2,(x0,x1,x2,x3,x4,i,op,a,b,sh,x4.getD (sh-1).toNat 0+1,o,es,v,x14)):=by
 have hi:(sh-1).toNat<x4.length:=by omega
 show uS BIG _=_;rw [Nt];dsimp only;rw [wr (n:=sh-1) (by omega) (by omega),bW (by omega) (by omega),getD_at hi,ae,wr (by omega) (by omega)]
theorem aDS (x0:Int) (x1:aa Int) (x2:aa Ed) (x3:aa (aa Int)) (x4:aa Int) (x14:aa Sd) (x5 x6 x7 x8 x9 x10 x11:Int) (x12:aa Ed) (x13:Int) (i op a b sh q o:Int) (es:aa Ed) (v:Int) (hn:x4.length<=1000000) (h1:1<=sh) (h2:sh<=x4.length) (h3:0<=x4.getD (sh-1).toNat 0/\x4.getD (sh-1).toNat 0<=1000000):EA ((x0,x1,x2,x3,x4,x5,x6,x7,x8,x9,x10,x11,x12,x13,x14),(i,op,a,b),sh,(q,o,es,v))=some (2,(x0,x1,x2,x3,x4,i,op,a,b,sh,x4.getD (sh-1).toNat 0+1,o,es,v,x14)):=by
 have hi:(sh-1).toNat<x4.length:=by omega
 show Ez BIG _=_;rw [aiA];dsimp only;rw [wr (n:=sh-1) (by omega) (by omega),bW (by omega) (by omega),getD_at hi,ae,wr (by omega) (by omega)]
theorem aBY (x0:Int) (x1:aa Int) (x2:aa Ed) (x3:aa (aa Int)) (x4:aa Int) (x14:aa Sd) (x5 x6 x7 x8 x9 x10 x11:Int) (x12:aa Ed) (x13:Int) (i op a b v:Int) (h:x14.length<=1048576):Al ((x0,x1,x2,x3,x4,x5,x6,x7,x8,x9,x10,x11,x12,x13,x14),(i,op,a,b),v)=some ((),(x0,x1,x2,x3,x4,0,0,0,0,0,0,0,[],0,x14++[(i,i,op,a,b,v)])):=by
 show IA BIG _=_;rw [alB];dsimp only;rw [ak (by simp only [bI,bS];omega),ai]
section
variable (x0:Int) (x1:aa Int) (x2:aa Ed) (x3:aa (aa Int)) (x4:aa Int) (x14:aa Sd) (i op a b:Int) (es:aa Ed)
theorem XD (h0:1<=x0/\x0<=12) (h1:(x1.length:Int)=x0) (h2:uG x2/\x2.length<=66) (h3:x3.length<=3) (h4:x4.length=x3.length) (nI:x14.length<=80) (he:uG es/\es.length<=66) (ha:0<=a/\a<=x0-1) (hb:1<=b/\b<=x3.length) (hn:∀j,j<x4.length->0<=x4.getD j 0/\x4.getD j 0<=1000000) :
  vL ((x0,x1,x2,x3,x4,0,0,0,0,0,0,0,[],0,x14),(i,op,a,b),es)=some (G6 (MJ x0 x1 x2 x3 x4 x14 i op a b es)):=by
 have hm:maxLen=9223372036854775807:=by decide
 show vK BIG _=_;rw [Xl];dsimp only;rw [vR es (by omega) (fun _ (s:Hd)=>s=(x0,x1,x2,x3,x4,0,0,0,0,0,0,0,[],0,x14)) (fun s e=>if (!decide (e∈x2))=true then some s else none) ((1,(x0,x1,x2,x3,x4,0,0,0,0,0,0,0,[],0,x14++[(i,i,op,a,b,3)])):Int × Hd) rfl (fun j s y s' hy hs gU=>by
  split at gU
  ·cases gU;exact hs
  ·cases gU) (fun self s j y hy hs => ?_) (fun self s hs=>by simp)]
 ·rw [Br];have hc:(es.all fun e=>!decide (e∈x2))=decide (∀e,e∈es->e∉x2):=by
   rw [Bool.eq_iff_iff,bX,decide_eq_true_eq];exact ⟨fun h e he=>by simpa using h e he,fun h e he=>by simpa using h e he⟩
  rw [hc];unfold MJ;by_cases eF:∀e,e∈es->e∉x2
  ·rw [ak eF,if_pos rfl,if_pos eF];have arM:∀(l:aa Ed) (s:Hd),l.foldl (fun s _=>s) s=s:=by
    intro l;induction l with
    | nil=>intro s;rfl
    | cons e l ih=>intro s;rw [gK,ih]
   rw [arM,ae];simp only;rw [wr (n:=x0-1) (by omega) (by omega),jd,jd];rw [show aY a 0 (x0-1)=true from aW.2 ha,show aY b 1 (x3.length:Int)=true from aW.2 hb];simp only [ae,bC,ax];have Hy:=G7 he.1;rw [jY es (by omega) (fun j (s:Hd)=>s=(x0,x1,(es.take j).foldl ins x2,x3,x4,0,0,0,0,0,0,0,[],0,x14)/\uG s.2.2.1/\s.2.2.1.length<=66+j/\∀e,e∈es.drop j->e∉s.2.2.1) (fun s e=>(s.1,s.2.1,ins s.2.2.1 e,s.2.2.2)) id (by exact ⟨rfl,h2.1,by show x2.length<=66+0;omega,eF⟩) (fun j s y hy ⟨k1,k2,k3,k4⟩ => ?_) (fun self s j y hy ⟨k1,k2,k3,k4⟩ => ?_) (fun self s _=>by simp)]
   ·have hff:∀(l:aa Ed) (c:aa Ed),l.foldl (fun (s:Hd) e=>(s.1,s.2.1,ins s.2.2.1 e,s.2.2.2)) (x0,x1,c,x3,x4,0,0,0,0,0,0,0,[],0,x14)=(x0,x1,l.foldl ins c,x3,x4,0,0,0,0,0,0,0,[],0,x14):=by
     intro l;induction l with
     | nil=>intro c;rfl
     | cons e l ih=>intro c;rw [gK,gK,ih]
    have hai:a.toNat<x1.length:=by omega
    have hCl:=XC x2 es;have hIl:(m_ x1 x2 es a b).length<=(qR x2 es).length:=qX _ _;rw [hff];simp only [id,ae];rw [bW ha.1 (by omega),aT hai,ae,aup _ _ _ (by rw [lX];omega) (by show (qR x2 es).length<=_;omega),ae];have e1:List.filter (Fu (x1.set a.toNat b) b) (es.foldl ins x2)=m_ x1 x2 es a b:=rfl;have e2:es.foldl ins x2=qR x2 es:=rfl;simp only [e1];rw [e2];by_cases hI:(m_ x1 x2 es a b).length=0
    ·rw [ak (by omega),ai,if_pos hI,jm _ _ _ _ _ _ _ _ _ _ _ _ _ _ (by omega)];rfl
    ·rw [aA (by omega),ax,if_neg hI];rw [jY (m_ x1 x2 es a b) (by omega) (fun j (s:Hd)=>s.2.2.1.length<=132) (fun s e=>(s.1,s.2.1,del s.2.2.1 e,s.2.2.2)) id (by simp only;omega) (fun j s y hy hs=>by
      have:=abo s.2.2.1 y
      simp only;omega) (fun self s j y hy hs => ?_) (fun self s _=>by simp)]
     ·have hdd:∀(l:aa Ed) (o:aa Int) (c:aa Ed),l.foldl (fun (s:Hd) e=>(s.1,s.2.1,del s.2.2.1 e,s.2.2.2)) (x0,o,c,x3,x4,0,0,0,0,0,0,0,[],0,x14)=(x0,o,l.foldl del c,x3,x4,0,0,0,0,0,0,0,[],0,x14):=by
       intro l o;induction l with
       | nil=>intro c;rfl
       | cons e l ih=>intro c;rw [gK,gK,ih]
      rw [hdd];simp only [id,ae];rw [aDR _ _ _ _ _ _ _ _ _ _ _ _ _ _ _ _ _ _ _ _ _ _ _ _ (by omega) hb.1 (by omega) (hn _ (by omega))];rfl
     ·have hj:=(bf hy).1;simp only [show ((j:Int)<((m_ x1 x2 es a b).length:Int)) from by omega,decide_true,ai];rw [aH hj,hy,ae,Ka _ _ (by omega),ae,bV (by omega)]
   ·have hj:=(bf hy).1;have ht:es.take (j+1)=es.take j++[y]:=by
     rw [rO hj];rw [aT hj,aO] at hy;rw [hy]
    have hd:es.drop j=y::es.drop (j+1):=by
     rw [u6 hj];rw [aT hj,aO] at hy;rw [hy]
    subst k1;refine ⟨?_,acP k2,?_,fun e HZ bq => ?_⟩
    ·rw [ht,pR];rfl
    ·have:=abp ((es.take j).foldl ins x2) y;simp only at k3 ⊢;omega
    ·rcases mP.1 bq with rfl|bq
     ·have hnn:(es.drop j).Nodup:=Hy.sublist (List.drop_sublist _ _);rw [hd,nP] at hnn;exact hnn.1 HZ
     ·exact k4 e (by rw [hd];exact dU _ HZ) bq
   ·have hj:=(bf hy).1;simp only [show ((j:Int)<(es.length:Int)) from by omega,decide_true,ai];have Jg:y∈es.drop j:=by
     rw [u6 hj];rw [aT hj,aO] at hy;rw [hy];exact dX ..
    rw [aH hj,hy,ae,Jc _ _ (by omega),acQ k2 (k4 y Jg),ae,bV (by omega)]
  ·rw [aA eF,if_neg (by simp),if_neg eF];rfl
 ·have hj:=(bf hy).1;simp only [show ((j:Int)<(es.length:Int)) from by omega,decide_true,ai];subst hs;rw [aH hj,hy,ae,MC _ _ (by simp only;omega),ae,bV (by omega)];simp only;by_cases bq:y∈x2
  ·rw [ak bq,ai,jm _ _ _ _ _ _ _ _ _ _ _ _ _ _ (by omega)];simp
  ·rw [aA bq,ax];simp
theorem amj (x5 x6 x7 x8 x9 x10 x11:Int) (x12:aa Ed) (x13:Int) (h0:1<=x0/\x0<=12) (h1:(x1.length:Int)=x0) (h2:uG x2/\x2.length<=66) (h3:x3.length<=3) (h4:x4.length=x3.length) (nI:x14.length<=80) (he:uG es/\es.length<=66) (ha:0<=a/\a<=x0-1) (hb:1<=b/\b<=x3.length) (hn:∀j,j<x4.length->0<=x4.getD j 0/\x4.getD j 0<=1000000) :
  IC ((x0,x1,x2,x3,x4,x5,x6,x7,x8,x9,x10,x11,x12,x13,x14),(i,op,a,b),es)=some (G6 (MJ x0 x1 x2 x3 x4 x14 i op a b es)):=by
 have hm:maxLen=9223372036854775807:=by decide
 show IB BIG _=_;rw [alD];dsimp only;rw [ayr es (by omega) (mk:=fun (s:Hd × aa Ed) (j:Int)=>((s.1,s.2,j):Hd × aa Ed × Int)) (I:=fun j (s:Hd × aa Ed)=>s.1=(x0,x1,x2,x3,x4,x5,x6,x7,x8,x9,x10,x11,x12,x13,x14)/\s.2.length<=66+j) (st:=fun s e=>(Cg s.2 e).map fun c=>(s.1,c)) (R:=id) (b:=((1,(x0,x1,x2,x3,x4,0,0,0,0,0,0,0,[],0,x14++[(i,i,op,a,b,3)])):Int × Hd)) (s0:=((x0,x1,x2,x3,x4,x5,x6,x7,x8,x9,x10,x11,x12,x13,x14),x2)) ⟨rfl,by simp only;omega⟩ (fun j s s' y hy ⟨k1,k2⟩ gU => ?_) (fun self s j y hy ⟨k1,k2⟩ => ?_) (fun self s hs=>by simp)]
 ·have hfm:∀(l:aa Ed) (h:Hd) (c:aa Ed),fM (fun (s:Hd × aa Ed) e=>(Cg s.2 e).map fun c=>(s.1,c)) (h,c) l=(fM Cg c l).map fun c=>(h,c):=by
   intro l h;induction l with
   | nil=>intro c;rfl
   | cons e l ih=>
    intro c;rw [fM,fM];simp only;cases Cg c e with
    | none=>rfl
    | some c'=>simp only [dA,ae,ih]
  rw [hfm];unfold MJ;by_cases eF:∀e,e∈es->e∉x2
  ·rw [if_pos eF];obtain ⟨s',ik⟩:=ayq (s:=x2) (G7 he.1) eF;have hse:=ajT ik;rw [ik];have FQ:s'=qR x2 es:=hse;subst FQ;have hai:a.toNat<x1.length:=by omega
   have hCl:=XC x2 es;have hIl:(m_ x1 x2 es a b).length<=(qR x2 es).length:=qX _ _;simp only [dA,id,ae];rw [bW ha.1 (by omega),aT hai,ae,auq _ _ _ (by rw [lX];omega) (by omega),ae];have e1:List.filter (Fu (x1.set a.toNat b) b) (qR x2 es)=m_ x1 x2 es a b:=rfl;simp only [e1];rw [jY (m_ x1 x2 es a b) (by omega) (fun j (s:aa Ed)=>s.length<=132) del id (by omega) (fun j s y hy hs=>by
    have:=abo s y
    omega) (fun self s j y hy hs => ?_) (fun self s _=>by simp)]
   ·simp only [id,ae];by_cases hI:(m_ x1 x2 es a b).length=0
    ·rw [ak (by omega),ai,if_pos hI,qW.1 hI,aBY _ _ _ _ _ _ _ _ _ _ _ _ _ _ _ _ _ _ _ _ (by omega)];rfl
    ·rw [aA (by omega),ax,if_neg hI,aDS _ _ _ _ _ _ _ _ _ _ _ _ _ _ _ _ _ _ _ _ _ _ _ _ (by omega) hb.1 (by omega) (hn _ (by omega))];rfl
   ·have hj:=(bf hy).1;simp only [show ((j:Int)<((m_ x1 x2 es a b).length:Int)) from by omega,decide_true,ai];rw [aH hj,hy,ae,ND _ _ (by omega),ae,bV (by omega)]
  ·rw [if_neg eF];have aD3:fM Cg x2 es=none:=by
    cases hf:fM Cg x2 es with
    | none=>rfl
    | some s'=>exact absurd (aod hf).2.1 eF
   rw [aD3];rfl
 ·obtain ⟨h,c⟩:=s;simp only at k1 k2 gU;cases hc:Cg c y with
  | none=>rw [hc] at gU;cases gU
  | some c'=>
   rw [hc] at gU;simp only [dA,aO] at gU;subst gU;obtain ⟨_,rfl⟩:=XB hc;have:=abp c y;exact ⟨k1,by simp only;omega⟩
 ·obtain ⟨h,c⟩:=s;simp only at k1 k2;subst k1;have hj:=(bf hy).1;simp only [show ((j:Int)<(es.length:Int)) from by omega,decide_true,ai];rw [aH hj,hy,ae,Bp _ _ (by omega),ae,bV (by omega)];unfold Cg;by_cases bq:y∈c
  ·rw [ak bq,ai,aBY _ _ _ _ _ _ _ _ _ _ _ _ _ _ _ _ _ _ _ _ (by omega),if_pos bq];rfl
  ·rw [aA bq,ax,if_neg bq,aH hj,hy,ae,Q9 _ _ (by omega),ae];rfl
end
noncomputable def FC (x0:Int) (x1:aa Int) (x2:aa Ed) (x3:aa (aa Int)) (x4:aa Int) (x5 x6 x7 x8 x9 x10 x11:Int) (x12:aa Ed) (x13:Int) (x14:aa Sd) (sh:Int) (y:An):Bool:=
 uH x0 x1 x2 x3 x4 x14 (sI x0 x3.length x4 x14 x5 x6 x7 x8 x9 (x10,x11,x12,x13))&&(qc x0 y&&(!decide (x9=0)&&(decide (sh=x9)&&decide (y.1=x10))))
def Rj (x0:Int) (x1:aa Int) (x2:aa Ed) (x3:aa (aa Int)) (x4:aa Int) (x14:aa Sd) (i op a b q:Int) (ok:Bool) (es:aa Ed):NE:=
 if op=4 then (if q=3 then MJ x0 x1 x2 x3 x4 x14 i op a b es else Fy x0 x1 x2 x3 x4 x14 i op a b 1)
 else Fy x0 x1 x2 x3 x4 x14 i op a b (if ok then 1 else 2)
noncomputable def VS (x0:Int) (x1:aa Int) (x2:aa Ed) (x3:aa (aa Int)) (x4:aa Int) (x5 x6 x7 x8 x9 x10 x11:Int) (x12:aa Ed) (x13:Int) (x14:aa Sd) (sh:Int) (y:An):NE:=
 if FC x0 x1 x2 x3 x4 x5 x6 x7 x8 x9 x10 x11 x12 x13 x14 sh y=true then Rj x0 x1 x2 (x3.set (sh-1).toNat y.2.2.2) (x4.set (sh-1).toNat y.1) x14 x5 x6 x7 x8 x11 y.2.1 y.2.2.1 else (x0,x1,x2,x3,x4,x5,x6,x7,x8,x9,x10,x11,x12,x13,x14,0)
theorem acX {x0:Int} {x1:aa Int} {x2:aa Ed} {x3:aa (aa Int)} {x4:aa Int} {x5 x6 x7 x8 x9 x10 x11:Int} {x12:aa Ed} {x13:Int} {x14:aa Sd} {sh:Int} {y:An} (h:FC x0 x1 x2 x3 x4 x5 x6 x7 x8 x9 x10 x11 x12 x13 x14 sh y=true) :
  HdF x0 x1 x2 x3 x4 x14/\qc x0 y=true/\sh=x9/\(1<=sh/\sh<=x3.length)/\wC x0 x3.length x6 x7 x8=true:=by
 unfold FC at h;simp only [aU,decide_eq_true_eq,sV,decide_eq_false_iff_not] at h;obtain ⟨h1,h2,h3,h4,h5⟩:=h;obtain ⟨hF,ht⟩:=aBX h1;unfold sI at ht;rw [iE] at ht;rcases ht with ht|ht
 ·unfold tB at ht;simp only [aU,decide_eq_true_eq] at ht;exact absurd ht.2.1 h3
 ·simp only [aU,aW] at ht;exact ⟨hF,h2,h4,by rw [h4];exact ht.2.1,ht.1.2.2⟩
theorem VT {l:aa Int} {i:Nat} {v:Int} (h:∀j,j<l.length->0<=l.getD j 0/\l.getD j 0<=1000000) (hv:0<=v/\v<=1000000):∀j,j<(l.set i v).length->0<=(l.set i v).getD j 0/\(l.set i v).getD j 0<=1000000:=by
 intro j hj;rw [lX] at hj;by_cases wI:i=j
 ·subst wI;rw [gD (XU hj)];exact hv
 ·rw [gD ((List.getElem?_set_ne wI).trans (getD_at hj))];exact h j hj
section
variable {x0:Int} {x1:aa Int} {x2:aa Ed} {x3:aa (aa Int)} {x4:aa Int} {x14:aa Sd} (i op a b:Int) (es:aa Ed)
theorem ajU (h2:x2.length<=66) (he:es.length<=66) (h1:x1.length<=12) (nI:x14.length<=80) :
  ∃(w c:_) (t1 t2 t3 t4 t5 t6 t7:Int) (t8:aa Ed) (t9:Int) (s:aa Sd) (m:Int),MJ x0 x1 x2 x3 x4 x14 i op a b es=(x0,w,c,x3,x4,t1,t2,t3,t4,t5,t6,t7,t8,t9,s,m)/\w.length<=12/\c.length<=132/\t8.length<=132/\s.length<=81:=by
 have hCl:=XC x2 es;have hIl:(m_ x1 x2 es a b).length<=(qR x2 es).length:=qX _ _;have hd:=agm (m_ x1 x2 es a b) (qR x2 es);unfold MJ;split
 ·split
  ·exact ⟨_,_,_,_,_,_,_,_,_,_,_,_,_,rfl,by rw [lX];exact h1,by omega,by simp,by simp;omega⟩
  ·exact ⟨_,_,_,_,_,_,_,_,_,_,_,_,_,rfl,by rw [lX];exact h1,by omega,by omega,by omega⟩
 ·exact ⟨_,_,_,_,_,_,_,_,_,_,_,_,_,rfl,h1,by omega,by simp,by simp;omega⟩
theorem aAc (q:Int) (ok:Bool) (h2:x2.length<=66) (he:es.length<=66) (h1:x1.length<=12) (nI:x14.length<=80) :
  ∃(w c:_) (t1 t2 t3 t4 t5 t6 t7:Int) (t8:aa Ed) (t9:Int) (s:aa Sd) (m:Int),Rj x0 x1 x2 x3 x4 x14 i op a b q ok es=(x0,w,c,x3,x4,t1,t2,t3,t4,t5,t6,t7,t8,t9,s,m)/\w.length<=12/\c.length<=132/\t8.length<=132/\s.length<=81:=by
 have say:∀v,∃(w c:_) (t1 t2 t3 t4 t5 t6 t7:Int) (t8:aa Ed) (t9:Int) (s:aa Sd) (m:Int),Fy x0 x1 x2 x3 x4 x14 i op a b v=(x0,w,c,x3,x4,t1,t2,t3,t4,t5,t6,t7,t8,t9,s,m)/\w.length<=12/\c.length<=132/\t8.length<=132/\s.length<=81:=fun v=>⟨_,_,_,_,_,_,_,_,_,_,_,_,_,rfl,h1,by omega,by simp,by simp;omega⟩
 unfold Rj;split
 ·split
  ·exact ajU i op a b es h2 he h1 nI
  ·exact say _
 ·exact say _
end
section
variable (x0:Int) (x1:aa Int) (x2:aa Ed) (x3:aa (aa Int)) (x4:aa Int) (x5 x6 x7 x8 x9 x10 x11:Int) (x12:aa Ed) (x13:Int) (x14:aa Sd) (sh:Int) (y0:Int) (y1:Bool) (y2:aa Ed) (y3:aa Int) (h1:x1.length<=1048576) (h2:x2.length<=1048576) (h3:x3.length<=1048576/\∀y,y∈x3->y.length<=1048576) (h4:x4.length<=1048576) (dQ:x12.length<=1048576) (nI:x14.length<=1048576) (hy2:y2.length<=1048576) (hy3:y3.length<=1048576)
include h1 h2 h3 h4 dQ nI hy2 hy3
theorem aAd:Dr ((x0,x1,x2,x3,x4,x5,x6,x7,x8,x9,x10,x11,x12,x13,x14),sh,(y0,y1,y2,y3))=some (VS x0 x1 x2 x3 x4 x5 x6 x7 x8 x9 x10 x11 x12 x13 x14 sh (y0,y1,y2,y3),()):=by
 have hm:maxLen=9223372036854775807:=by decide
 show acN BIG _=_;rw [az0,VP x0 x1 x2 x3 x4 x5 x6 x7 x8 x9 x10 x11 x12 x13 x14 h1 h2 h3 h4 dQ nI,ae];dsimp only;rw [Re x0 x1 x2 x3 x4 x5 x6 x7 x8 x9 x10 x11 x12 x13 x14 h1 h2 h3 dQ nI,VL x0 (y0,y1,y2,y3) hy2 hy3,aoe];have hx:(Option.bind (some (uH x0 x1 x2 x3 x4 x14 (sI x0 x3.length x4 x14 x5 x6 x7 x8 x9 (x10,x11,x12,x13)),())) fun r1:Bool × Unit=>
   bif !r1.1 then some true else Option.bind (some (qc x0 (y0,y1,y2,y3),())) fun r2:Bool × Unit=>bif !r2.1 then some true else Option.bind (some (!decide (x9=0),())) fun r3:Bool × Unit=>bif !r3.1 then some true else bif !decide (sh=x9) then some true else some (!decide (y0=x10)))=some (!FC x0 x1 x2 x3 x4 x5 x6 x7 x8 x9 x10 x11 x12 x13 x14 sh (y0,y1,y2,y3)):=by
  unfold FC;simp only [ae];cases uH x0 x1 x2 x3 x4 x14 (sI x0 x3.length x4 x14 x5 x6 x7 x8 x9 (x10,x11,x12,x13))<;>cases qc x0 (y0,y1,y2,y3)<;>cases decide (x9=0)<;>cases decide (sh=x9)<;>cases decide (y0=x10)<;>rfl
 refine (congrArg (fun o=>Option.bind o _) hx).trans ?_;unfold VS;cases aV:FC x0 x1 x2 x3 x4 x5 x6 x7 x8 x9 x10 x11 x12 x13 x14 sh (y0,y1,y2,y3) with
 | false=>rfl
 | true=>
  obtain ⟨hF,hA,hs,oH,hr⟩:=acX aV;obtain ⟨r1,r2,r3,r4⟩:=agE hr;obtain ⟨a1,a2,a3,a4,a5,a6,a7⟩:=acT hA;have ko:=j_ hF.cuts;have Cn:=j_ a5;have ui:=hF.said;have hk:=hF.k;have axl:=hF.nums;have hn4:=VT (l:=x4) (i:=(sh-1).toNat) (fun j hj=>by have:=(hF.o3 j (by omega)).2;omega) (show 0<=y0/\y0<=1000000 by simp only at a3 a4;omega);have e4:x4[(sh-1).toNat]?=some (x4.getD (sh-1).toNat 0):=getD_at (by omega);have e3:=aT (l:=x3) (i:=(sh-1).toNat) (by omega);simp only [bC,ae,ax,if_true];rw [wr (n:=sh-1) (by omega) (by omega),bW (by omega) (by omega),e4,ae,AA y3 hy3,ae,bW (by omega) (by omega),e3,ae];unfold Rj;by_cases h6:x6=4
  ·subst h6;simp only [decide_true,bC,ax,if_true];by_cases Ho:x11=3
   ·rw [ak Ho,ai,if_pos Ho,XD _ _ _ _ _ _ _ _ _ _ _ hF.n hF.own ⟨(lw hF.cuts).2.1,by omega⟩ (by rw [lX];omega) (by rw [lX,lX];omega) (by omega) ⟨(lw a5).2.1,by omega⟩ r2 (by rw [lX];exact r3 rfl) hn4];rfl
   ·rw [aA Ho,ax,if_neg Ho,jm _ _ _ _ _ _ _ _ _ _ _ _ _ _ (by omega)];rfl
  ·simp only [aA h6,ib,ai,if_neg h6];rw [ajI,ae,jm _ _ _ _ _ _ _ _ _ _ _ _ _ _ (by omega)];rfl
theorem aAe:zz ((x0,x1,x2,x3,x4,x5,x6,x7,x8,x9,x10,x11,x12,x13,x14),sh,(y0,y1,y2,y3))=some (VS x0 x1 x2 x3 x4 x5 x6 x7 x8 x9 x10 x11 x12 x13 x14 sh (y0,y1,y2,y3),()):=by
 have hm:maxLen=9223372036854775807:=by decide
 show acC BIG _=_;rw [azS,De x0 x1 x2 x3 x4 x5 x6 x7 x8 x9 x10 x11 x12 x13 x14 h1 h2 h3 h4 dQ nI,ae];dsimp only;rw [Rf x0 x1 x2 x3 x4 x5 x6 x7 x8 x9 x10 x11 x12 x13 x14 h1 h2 h3 dQ nI,VM x0 (y0,y1,y2,y3) hy2 hy3,acR];have hx:(Option.bind (some (uH x0 x1 x2 x3 x4 x14 (sI x0 x3.length x4 x14 x5 x6 x7 x8 x9 (x10,x11,x12,x13)),())) fun r1:Bool × Unit=>
   bif !r1.1 then some true else Option.bind (some (qc x0 (y0,y1,y2,y3),())) fun r2:Bool × Unit=>bif !r2.1 then some true else Option.bind (some (!decide (x9=0),())) fun r3:Bool × Unit=>bif !r3.1 then some true else bif !decide (sh=x9) then some true else some (!decide (y0=x10)))=some (!FC x0 x1 x2 x3 x4 x5 x6 x7 x8 x9 x10 x11 x12 x13 x14 sh (y0,y1,y2,y3)):=by
  unfold FC;simp only [ae];cases uH x0 x1 x2 x3 x4 x14 (sI x0 x3.length x4 x14 x5 x6 x7 x8 x9 (x10,x11,x12,x13))<;>cases qc x0 (y0,y1,y2,y3)<;>cases decide (x9=0)<;>cases decide (sh=x9)<;>cases decide (y0=x10)<;>rfl
 refine (congrArg (fun o=>Option.bind o _) hx).trans ?_;unfold VS;cases aV:FC x0 x1 x2 x3 x4 x5 x6 x7 x8 x9 x10 x11 x12 x13 x14 sh (y0,y1,y2,y3) with
 | false=>rfl
 | true=>
  obtain ⟨hF,hA,hs,oH,hr⟩:=acX aV;obtain ⟨r1,r2,r3,r4⟩:=agE hr;obtain ⟨a1,a2,a3,a4,a5,a6,a7⟩:=acT hA;have ko:=j_ hF.cuts;have Cn:=j_ a5;have ui:=hF.said;have hk:=hF.k;have axl:=hF.nums;have hnn:=hF.n;have FX:=hF.own;have hn4:=VT (l:=x4) (i:=(sh-1).toNat) (fun j hj=>by have:=(hF.o3 j (by omega)).2;omega) (show 0<=y0/\y0<=1000000 by simp only at a3 a4;omega);have e4:x4[(sh-1).toNat]?=some (x4.getD (sh-1).toNat 0):=getD_at (by omega);have e3:=aT (l:=x3) (i:=(sh-1).toNat) (by omega);have h3':(x3.set (sh-1).toNat y3).length<=1048576/\∀y,y∈x3.set (sh-1).toNat y3->y.length<=1048576:=⟨by rw [lX];omega,fun y hy=>by
   rcases List.mem_or_eq_of_mem_set hy with hy|rfl
   ·exact h3.2 y hy
   ·exact hy3⟩
  simp only [bC,ae,ax,if_true];rw [wr (n:=sh-1) (by omega) (by omega),bW (by omega) (by omega),e4,ae,ak (by simp;omega),ai,bW (by omega) (by omega),e3,ae];simp only [gX];unfold Rj;by_cases h6:x6=4
  ·subst h6;simp only [decide_true,bC,ai,ax,if_true,ae];by_cases Ho:x11=3
   ·simp only [ak Ho,ai,if_pos Ho];rw [amj _ _ _ _ _ _ _ _ _ _ _ _ _ _ _ _ _ _ _ _ hF.n hF.own ⟨(lw hF.cuts).2.1,by omega⟩ (by rw [lX];omega) (by rw [lX,lX];omega) (by omega) ⟨(lw a5).2.1,by omega⟩ r2 (by rw [lX];exact r3 rfl) hn4,ae];obtain ⟨w,c,t1,t2,t3,t4,t5,t6,t7,t8,t9,s,m,e,l1,l2,l3,l4⟩:=ajU (x0:=x0) (x1:=x1) (x2:=x2) (x3:=x3.set (sh-1).toNat y3) (x4:=x4.set (sh-1).toNat y0) (x14:=x14) x5 4 x7 x8 y2 (by omega) (by show y2.length<=66;exact Cn) (by omega) (by omega);rw [e];simp only [G6];rw [De _ _ _ _ _ _ _ _ _ _ _ _ _ _ _ (by omega) (by omega) h3' (by rw [lX];omega) (by omega) (by omega),ae]
   ·simp only [aA Ho,ax,if_neg Ho];rw [mH _ _ _ _ _ _ _ _ _ _ _ _ _ _ (by omega)];rfl
  ·simp only [aA h6,ib,ai,ax,if_neg h6,ae];cases y1 with
   | true=>
    simp only [bC,ax,ae,if_true];rw [mH _ _ _ _ _ _ _ _ _ _ _ _ _ _ (by omega)];rfl
   | false=>
    simp only [ib,ai,ae,iP,if_false];rw [mH _ _ _ _ _ _ _ _ _ _ _ _ _ _ (by omega)];rfl
end
inductive FT where
 | nil
 | nd (v:Int) (c s:FT)
def FT.vs:FT->aa Int
 | .nil=>[]
 | .nd v c s=>v::(c.vs++s.vs)
def FT.sg:FT->Int->aa Int
 | .nil,_=>[]
 | .nd v c s,r=>v::(c.sg v++r::s.sg r)
def FT.app:FT->FT->FT
 | .nil,g=>g
 | .nd v c s,g=>.nd v c (s.app g)
def tr (v:Int) (c:FT):aa Int:=v::c.sg v
theorem auL (r:Int) (g:FT):∀f:FT,(f.app g).sg r=f.sg r++g.sg r
 | .nil=>rfl
 | .nd v c s=>by
  have:=auL r g s;simp [FT.app,FT.sg,this]
theorem auM (g:FT):∀f:FT,(f.app g).vs=f.vs++g.vs
 | .nil=>rfl
 | .nd v c s=>by
  have:=auM g s;simp [FT.app,FT.vs,this]
theorem abq:∀(f:FT) (r:Int),(f.sg r).length=2*f.vs.length
 | .nil,_=>rfl
 | .nd v c s,r=>by
  have:=abq c v;have:=abq s r;simp only [FT.sg,FT.vs,bI,dR];omega
theorem yf (v:Int) (c:FT):(tr v c).length=2*c.vs.length+1:=by
 simp [tr,abq]
theorem ajV:∀(f:FT) (r x:Int),x∈f.sg r↔x∈f.vs\/(x=r/\f.vs≠[])
 | .nil,r,x=>by simp [FT.sg,FT.vs]
 | .nd v c s,r,x=>by
  have h1:=ajV c v x;have h2:=ajV s r x;simp only [FT.sg,FT.vs,a_,bJ,h1,h2];constructor
  ·rintro (h | (h|⟨h,_⟩)|h|h|⟨h,_⟩)
   ·exact .inl (.inl h)
   ·exact .inl (.inr (.inl h))
   ·exact .inl (.inl h)
   ·exact .inr ⟨h,by simp⟩
   ·exact .inl (.inr (.inr h))
   ·exact .inr ⟨h,by simp⟩
  ·rintro ((h|h|h)|⟨h,_⟩)
   ·exact .inl h
   ·exact .inr (.inl (.inl h))
   ·exact .inr (.inr (.inr (.inl h)))
   ·exact .inr (.inr (.inl h))
theorem yg (v:Int) (c:FT) (x:Int):x∈tr v c↔x∈v::c.vs:=by
 simp only [tr,a_,ajV];constructor
 ·rintro (h|h|⟨h,_⟩)
  ·exact .inl h
  ·exact .inr h
  ·exact .inl h
 ·rintro (h|h)
  ·exact .inl h
  ·exact .inr (.inl h)
def uW (s:aa Int × aa Int) (v:Int):ah (aa Int × aa Int):=
 if 1<s.1.length/\s.1.getD (s.1.length-2) 0=v then some (s.1.take (s.1.length-1),s.2)
 else if (0<=v/\v<=11)/\v∉s.2 then some (s.1++[v],s.2++[v]) else none
theorem abr {S α:Type} (st:S->α->ah S):∀(a b:aa α) (s:S),fM st s (a++b)=(fM st s a).bind fun s'=>fM st s' b
 | [],b,s=>rfl
 | x::a,b,s=>by
  rw [ny,fM,fM];cases st s x with
  | none=>rfl
  | some s'=>simp only [ae,abr st a b]
theorem ajW:∀(f:FT) (r:Int) (P M:aa Int),(∀x,x∈P->x∈M)->(∀x,x∈f.vs->x∉M)->f.vs.Nodup->(∀x,x∈f.vs->0<=x/\x<=11)->r∈M->fM uW (P++[r],M) (f.sg r)=some (P++[r],M++f.vs)
 | .nil,r,P,M,_,_,_,_,_=>by simp [FT.sg,FT.vs,fM]
 | .nd v c s,r,P,M,hP,hd,hn,hr,hrM=>by
  simp only [FT.vs] at hd hn hr ⊢
  rw [nP,bJ,not_or,RU] at hn
  obtain ⟨⟨n1,n2⟩,n3,n4,n5⟩:=hn
  have hv:=hd v (dX ..)
  have s1:uW (P++[r],M) v=some (P++[r]++[v],M++[v]):=by
   unfold uW;rw [if_neg,if_pos ⟨hr v (dX ..),hv⟩];rintro ⟨g1,g2⟩;simp only [dR,bI,bS] at g1 g2;have bU:P.length+(0+1)-2<P.length:=by omega
   have:(P++[r])[P.length+(0+1)-2]?=some P[P.length+(0+1)-2]:=by
    rw [rQ bU,aT bU]
   rw [gD this] at g2;exact hv (hP v (by rw [<-g2];exact nM _))
  have s2:=ajW c v (P++[r]) (M++[v]) (fun x hx=>by
   rw [bJ,cB] at hx ⊢
   rcases hx with hx|rfl
   ·exact .inl (hP x hx)
   ·exact .inl hrM) (fun x hx hm=>by
   rw [bJ,cB] at hm
   rcases hm with hm|rfl
   ·exact hd x (dU _ (jr _ hx)) hm
   ·exact n1 hx) n3 (fun x hx=>hr x (dU _ (jr _ hx))) (by simp)
  have s3:uW (P++[r]++[v],M++[v]++c.vs) r=some (P++[r],M++[v]++c.vs):=by
   unfold uW
   rw [if_pos]
   ·have:(P++[r]++[v]).take ((P++[r]++[v]).length-1)=P++[r]:=by
     rw [show (P++[r]++[v]).length-1=(P++[r]).length from by simp,List.take_left]
    simp only
    rw [this]
   ·simp only [dR,bI,bS]
    refine ⟨by omega,?_⟩
    have:(P++[r]++[v])[P.length+(0+1)+(0+1)-2]?=some r:=by
     rw [rQ (by simp),show P.length+(0+1)+(0+1)-2=P.length from by omega]
     simp
    exact gD this
  have s4:=ajW s r P (M++[v]++c.vs) (fun x hx=>by simp [hP x hx]) (fun x hx hm=>by
   rw [bJ,bJ,cB] at hm
   rcases hm with (hm|rfl)|hm
   ·exact hd x (dU _ (jJ _ hx)) hm
   ·exact n2 hx
   ·exact n5 x hm x hx rfl) n4 (fun x hx=>hr x (dU _ (jJ _ hx))) (by simp [hrM])
  simp only [FT.sg]
  rw [fM,s1,ae,abr,s2,ae,fM,s3,ae,s4]
  simp
structure TrOk (v:Int) (c:FT):Prop where
 nd:(v::c.vs).Nodup
 rg:∀x,x∈v::c.vs->0<=x/\x<=11
theorem vS:∀(n:Nat) (l:aa Int),l.Nodup->(∀x,x∈l->0<=x/\x<n)->l.length<=n
 | 0,l,_,h=>by
  cases l with
  | nil=>simp
  | cons x l=>have:=h x (dX ..);omega
 | n+1,l,hn,h=>by
  have h1:=vS n (l.erase (n:Int)) (hn.erase _) (fun x hx=>by
   have h2:=(hn.mem_erase_iff).1 hx
   have:=h x h2.2
   have:=h2.1
   omega)
  have h2:=List.length_erase (a:=(n:Int)) (l:=l);split at h2
  ·rw [h2] at h1;omega
  ·rw [h2] at h1;omega
theorem TrOk.len {v:Int} {c:FT} (h:TrOk v c):c.vs.length<=11:=by
 have:=vS 12 (v::c.vs) h.nd (fun x hx=>by have:=h.rg x hx;omega);simp only [bI] at this;omega
theorem TrOk.run {v:Int} {c:FT} (h:TrOk v c):fM uW ([v],[v]) (c.sg v)=some ([v],v::c.vs):=by
 have hn:=h.nd;rw [nP] at hn;have:=ajW c v [] [v] (by simp) (fun x hx hm=>by rw [cB] at hm;subst hm;exact hn.1 hx) hn.2 (fun x hx=>h.rg x (dU _ hx)) (by simp);simpa using this
theorem yh {α B:Type} (a:aa α) (hl:a.length<18446744073709551616) (p:α->Bool) (b:B) {F:(Int->ah (Unit ⊕ B))->Int->ah (Unit ⊕ B)}
  (hF:∀self (i:Nat) y,a[i]?=some y->F self (i:Int)=if p y then some (.inr b) else self ((i+1:Nat):Int))
  (hE:∀self,F self (a.length:Int)=some (.inl ())):aK BIG F 0=some (if a.any p=true then .inr b else .inl ()):=by
 refine kI (fun (x:Int)=>∃i:Nat,x=(i:Int)/\i<=a.length/\∀j (hj:j<a.length),j<i->p a[j]=false) (fun x=>a.length-x.toNat) (fun _=>_) (fun self x ⟨i,h1,h2,h3⟩ hs => ?_) (n:=BIG) (x:=0) (by simp;exact hl) ⟨0,rfl,by simp,fun j _ hj=>by omega⟩;subst h1;by_cases hi:i<a.length
 ·rw [hF self i a[i] (aT hi)];cases hp:p a[i] with
  | true=>rw [if_pos rfl,if_pos (nO.2 ⟨a[i],nM hi,hp⟩)]
  | false=>
   rw [if_neg (by simp)];refine hs _ ⟨i+1,rfl,hi,fun j hj iA => ?_⟩ (by simp;omega);by_cases wI:j=i
   ·subst wI;exact hp
   ·exact h3 j hj (by omega)
 ·have:i=a.length:=by omega
  subst this;rw [hE,if_neg];intro h;obtain ⟨y,hy,hp⟩:=nO.1 h;obtain ⟨j,hj,rfl⟩:=wJ hy;rw [h3 j hj hj] at hp;cases hp
end Go.Fw
