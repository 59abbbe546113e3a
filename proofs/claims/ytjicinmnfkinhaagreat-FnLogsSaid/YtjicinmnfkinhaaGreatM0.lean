/- What the given functions come to. No conditions. -/
import Derived.Test.YtjicinmnfkinhaaGreatX2
import Derived.IntWalk
set_option linter.unusedSectionVars false
namespace Go.Fw
theorem Ad {X B:Type} {F:(X->ah B)->X->ah B} (I:X->Prop) (μ:X->Nat) (Q:X->B->Prop)
  (h:∀self x,I x->(∀y,I y->μ y<μ x->∃b,self y=some b/\Q y b)->∃b,F self x=some b/\Q x b):∀{n:Nat} {x:X},μ x<n->I x->∃b,aU n F x=some b/\Q x b
 | 0,_,hn,_=>absurd hn (Nat.not_lt_zero _)
 | n+1,x,hn,hi=>h (it F n) x hi fun _ hy hm=>Ad I μ Q h (n:=n) (by omega) hy
theorem qI {X B:Type} {F:(X->ah B)->X->ah B} (I:X->Prop) (μ:X->Nat) (R:X->B)
  (h:∀self x,I x->(∀y,I y->μ y<μ x->self y=some (R y))->F self x=some (R x)) {n:Nat} {x:X} (hn:μ x<n) (hi:I x):aU n F x=some (R x):=by
 obtain ⟨b,h1,h2⟩:=Ad (F:=F) I μ (fun x b=>b=R x) (fun self x hx hs=>⟨_,h self x hx fun y hy hm=>by obtain ⟨b,h1,h2⟩:=hs y hy hm;rw [h1,h2],rfl⟩) hn hi;rw [h1,h2]
theorem wr {n:Int} (h : -9223372036854775808<=n) (h':n<=9223372036854775807):IntKind.wrap .i64 n=n:=by
 rw [IntKind.wrap_i64];omega
theorem dK {i:Nat} (h:i<maxLen):IntKind.wrap .i64 ((i:Int)+1)=((i+1:Nat):Int):=by
 have:maxLen=9223372036854775807:=by decide
 rw [wr (by omega) (by omega)];rfl
theorem dO {B:Type} {len:Nat} {i:Int} {k:Nat->ah B} (h:0<=i) (h':i<len):bnd len i k=k i.toNat:=by
 unfold bnd;rw [if_pos ⟨h,by omega⟩]
theorem aJ {B:Type} {len:Nat} {i:Nat} {k:Nat->ah B} (h':i<len):bnd len (i:Int) k=k i:=by
 rw [dO (Xd i) (by omega)];simp
theorem ni {α B:Type} (a:aa α) (hl:a.length<18446744073709551616) {F:(Int->ah (Unit ⊕ B))->Int->ah (Unit ⊕ B)} (p:Nat->Bool) (b:B)
  (hF:∀self (i:Nat) y,a[i]?=some y->F self (i:Int)=if p i then self ((i+1:Nat):Int) else some (.inr b))
  (hE:∀self,F self (a.length:Int)=some (.inl ())):aU BIG F 0=some (if ∀i,i<a.length->p i=true then .inl () else .inr b):=by
 have hh:=Ad (F:=F) (fun x=>∃i:Nat,x=i/\i<=a.length) (fun x=>a.length-x.toNat) (fun x r=>((∀i:Nat,x<=(i:Int)->i<a.length->p i=true)/\r = .inl ())\/((∃i:Nat,i<a.length/\p i=false)/\r = .inr b)) (fun self x ⟨i,h1,h2⟩ hs => ?_) (n:=BIG) (x:=0) (by simp;exact hl) ⟨0,rfl,by simp⟩
 ·obtain ⟨r,hr,hq⟩:=hh;rw [hr];congr 1;rcases hq with ⟨h1,rfl⟩|⟨⟨i,h1,h2⟩,rfl⟩
  ·rw [if_pos fun i hi=>h1 i (by omega) hi]
  ·rw [if_neg];intro h;rw [h i h1] at h2;cases h2
 ·subst h1;by_cases hi:i<a.length
  ·rw [hF self i a[i] (aZ hi)];cases hp:p i with
   | true=>
    rw [if_pos rfl];obtain ⟨r,hr,hq⟩:=hs _ ⟨i+1,rfl,hi⟩ (by simp;omega);refine ⟨r,hr,?_⟩;rcases hq with ⟨h1,rfl⟩|h1
    ·refine .inl ⟨fun k hk mR => ?_,rfl⟩;by_cases h:k=i
     ·subst h;exact hp
     ·exact h1 k (by omega) mR
    ·exact .inr h1
   | false=>exact ⟨_,rfl,.inr ⟨⟨i,hi,hp⟩,rfl⟩⟩
  ·have:i=a.length:=by omega
   subst this;exact ⟨_,hE self,.inl ⟨fun k hk mR=>by omega,rfl⟩⟩
theorem afg:maxLen<18446744073709551616:=by decide
theorem aun {α B:Type} [DecidableEq α] (a b:aa α) (hl:a.length<=maxLen) (eY:a.length=b.length) {F:(Int->ah (Unit ⊕ B))->Int->ah (Unit ⊕ B)} (r:B)
  (hF:∀self (i:Nat) x y,a[i]?=some x->b[i]?=some y->F self (i:Int)=if x=y then self ((i+1:Nat):Int) else some (.inr r))
  (hE:∀self,F self (a.length:Int)=some (.inl ())):aU BIG F 0=some (if a=b then .inl () else .inr r):=by
 rw [ni a (Nat.lt_of_le_of_lt hl afg) (fun i=>decide (a[i]?=b[i]?)) r (fun self i y hy => ?_) hE]
 ·congr 1;by_cases h:a=b
  ·subst h;simp
  ·rw [if_neg h,if_neg];intro h';apply h;apply Xf fun i => ?_
   by_cases hi:i<a.length
   ·simpa using h' i hi
   ·rw [uY (by omega),uY (by omega)]
 ·have hi:=(bn hy).1;have hb:b[i]?=some (b[i]'(by omega)):=aZ (by omega);rw [hF self i y _ hy hb,hy,hb];simp
theorem jZ {α S B:Type} (a:aa α) (hl:a.length<18446744073709551616) {F:(S × Int->ah B)->S × Int->ah B} (I:Nat->S->Prop) (st:S->α->S) (R:S->B) {s0:S} (h0:I 0 s0)
  (hI:∀i s y,a[i]?=some y->I i s->I (i+1) (st s y)) (hF:∀self s (i:Nat) y,a[i]?=some y->I i s->F self (s,(i:Int))=self (st s y,((i+1:Nat):Int)))
  (hE:∀self s,I a.length s->F self (s,(a.length:Int))=some (R s)):aU BIG F (s0,0)=some (R (a.foldl st s0)):=by
 have:=qI (F:=F) (fun x=>∃i:Nat,x.2=i/\i<=a.length/\I i x.1) (fun x=>a.length-x.2.toNat) (fun x=>R ((a.drop x.2.toNat).foldl st x.1)) (fun self x ⟨i,h1,h2,h3⟩ hs => ?_) (n:=BIG) (x:=(s0,0)) (by simp;exact hl) ⟨0,rfl,by simp,h0⟩
 ·simpa using this
 ·obtain ⟨s,j⟩:=x;simp only at h1 h2 h3;subst h1;by_cases hi:i<a.length
  ·have hy:=aZ hi;rw [hF self s i a[i] hy h3,hs _ ⟨i+1,rfl,hi,hI _ _ _ hy h3⟩ (by simp;omega)];simp only [eH];rw [BX hi,iR]
  ·have:i=a.length:=by omega
   subst this;rw [hE self s h3];simp
inductive Con (E:List (Int × Int)):Int->Int->Prop
 | refl (v:Int):Con E v v
 | fwd {u v w:Int}:Con E u v->(v,w)∈E->Con E u w
 | bwd {u v w:Int}:Con E u v->(w,v)∈E->Con E u w
theorem Con.trans {E:aa (Int × Int)} {u v w:Int} (h:Con E u v) (h':Con E v w):Con E u w:=by
 induction h' with
 | refl=>exact h
 | fwd _ he ih=>exact .fwd ih he
 | bwd _ he ih=>exact .bwd ih he
theorem Con.symm {E:aa (Int × Int)} {u v:Int} (h:Con E u v):Con E v u:=by
 induction h with
 | refl=>exact .refl _
 | fwd _ he ih=>exact Con.trans (.bwd (.refl _) he) ih
 | bwd _ he ih=>exact Con.trans (.fwd (.refl _) he) ih
theorem Con.mono {E E':aa (Int × Int)} (hE:∀e,e∈E->e∈E') {u v:Int} (h:Con E u v):Con E' u v:=by
 induction h with
 | refl=>exact .refl _
 | fwd _ he ih=>exact .fwd ih (hE _ he)
 | bwd _ he ih=>exact .bwd ih (hE _ he)
theorem Con.of {E:aa (Int × Int)} {u v:Int} (h:(u,v)∈E):Con E u v:=.fwd (.refl _) h
theorem Con.sub {E E':aa (Int × Int)} (hE:∀e,e∈E->Con E' e.1 e.2) {u v:Int} (h:Con E u v):Con E' u v:=by
 induction h with
 | refl=>exact .refl _
 | fwd _ he ih=>exact ih.trans (hE _ he)
 | bwd _ he ih=>exact ih.trans (hE _ he).symm
theorem Con.nil {u v:Int} (h:Con [] u v):u=v:=by
 induction h with
 | refl=>rfl
 | fwd _ he _=>cases he
 | bwd _ he _=>cases he
theorem Con.snoc {E:aa (Int × Int)} {a b u v:Int}:Con (E++[(a,b)]) u v↔Con E u v\/(Con E u a/\Con E b v)\/(Con E u b/\Con E a v):=by
 constructor
 ·intro h;induction h with
  | refl=>exact .inl (.refl _)
  | fwd _ he ih=>
   rcases bP.1 he with h1|h1
   ·rcases ih with h|⟨h,h'⟩|⟨h,h'⟩
    ·exact .inl (.fwd h h1)
    ·exact .inr (.inl ⟨h,.fwd h' h1⟩)
    ·exact .inr (.inr ⟨h,.fwd h' h1⟩)
   ·cases bY.1 h1;rcases ih with h|⟨h,h'⟩|⟨h,h'⟩
    ·exact .inr (.inl ⟨h,.refl _⟩)
    ·exact .inr (.inl ⟨h,.refl _⟩)
    ·exact .inl h
  | bwd _ he ih=>
   rcases bP.1 he with h1|h1
   ·rcases ih with h|⟨h,h'⟩|⟨h,h'⟩
    ·exact .inl (.bwd h h1)
    ·exact .inr (.inl ⟨h,.bwd h' h1⟩)
    ·exact .inr (.inr ⟨h,.bwd h' h1⟩)
   ·cases bY.1 h1;rcases ih with h|⟨h,h'⟩|⟨h,h'⟩
    ·exact .inr (.inr ⟨h,.refl _⟩)
    ·exact .inl h
    ·exact .inr (.inr ⟨h,.refl _⟩)
 ·have hm:∀{x y:Int},Con E x y->Con (E++[(a,b)]) x y:=fun h=>h.mono fun e he=>jc _ he
  have eY:Con (E++[(a,b)]) a b:=.of (jN _ (bY.2 rfl));rintro (h|⟨h,h'⟩|⟨h,h'⟩)
  ·exact hm h
  ·exact (hm h).trans (eY.trans (hm h'))
  ·exact (hm h).trans (eY.symm.trans (hm h'))
def pG (n:Nat) (E:aa (Int × Int)):Prop:=∀e,e∈E->0<=e.1/\e.1<n/\0<=e.2/\e.2<n
theorem Con.range {n:Nat} {E:aa (Int × Int)} (hE:pG n E) {u v:Int} (h:Con E u v) (hu:0<=u/\u<n):0<=v/\v<n:=by
 induction h with
 | refl=>exact hu
 | fwd _ he _=>exact ⟨(hE _ he).2.2.1,(hE _ he).2.2.2⟩
 | bwd _ he _=>exact ⟨(hE _ he).1,(hE _ he).2.1⟩
def Lab (n:Nat) (E:aa (Int × Int)) (l:aa Int):Prop:=
 l.length=n/\∀(v:Nat) (x:Int),l[v]?=some x->Con E v x/\0<=x/\∀u:Int,0<=u->Con E v u->x<=u
theorem Lab.le {n:Nat} {E:aa (Int × Int)} {l:aa Int} (h:Lab n E l) {v:Nat} {x:Int} (hx:l[v]?=some x):x<=v:=
 (h.2 v x hx).2.2 v (Xd v) (.refl _)
theorem Lab.lt {n:Nat} {E:aa (Int × Int)} {l:aa Int} (h:Lab n E l) {v:Nat} {x:Int} (hx:l[v]?=some x):0<=x/\x<n:=by
 have h1:=h.le hx;have h2:=(bn hx).1;have h3:=(h.2 v x hx).2.1;have h4:=h.1;omega
theorem Lab.iff {n:Nat} {E:aa (Int × Int)} {l:aa Int} (h:Lab n E l) {u v:Nat} {x y:Int} (hx:l[u]?=some x) (hy:l[v]?=some y):x=y↔Con E u v:=by
 have h1:=h.2 u x hx;have h2:=h.2 v y hy;constructor
 ·intro e;subst e;exact h1.1.trans h2.1.symm
 ·intro c;have a:=h1.2.2 y h2.2.1 (c.trans h2.1);have b:=h2.2.2 x h1.2.1 (c.symm.trans h1.1);omega
theorem Lab.self {n:Nat} {E:aa (Int × Int)} {l:aa Int} (h:Lab n E l) {v:Nat} {x:Int} (hx:l[v]?=some x):l[x.toNat]?=some x:=by
 have h1:=h.lt hx;have hi:x.toNat<l.length:=by rw [h.1];omega
 rw [aZ hi];have h2:=h.2 v x hx;have hc:Con E (x.toNat:Int) v:=by rw [gV h1.1];exact h2.1.symm
 rw [(h.iff (aZ hi) hx).2 hc]
theorem Lab.uniq {n:Nat} {E E':aa (Int × Int)} {l l':aa Int} (h:Lab n E l) (h':Lab n E' l') (hc:∀u v:Int,Con E u v↔Con E' u v):l=l':=by
 apply Xf;intro i;by_cases hi:i<n
 ·have e1:l[i]?=some (l[i]'(by rw [h.1];exact hi)):=aZ _;have e2:l'[i]?=some (l'[i]'(by rw [h'.1];exact hi)):=aZ _;rw [e1,e2];have h1:=h.2 i _ e1;have h2:=h'.2 i _ e2;have a:=h1.2.2 _ h2.2.1 ((hc _ _).2 h2.1);have b:=h2.2.2 _ h1.2.1 ((hc _ _).1 h1.1);congr 1;omega
 ·rw [uY (by rw [h.1];omega),uY (by rw [h'.1];omega)]
def Ae (n:Nat):aa Int:=(List.range n).map fun (i:Nat)=>(i:Int)
theorem Ww {n v:Nat} {x:Int} (h:(Ae n)[v]?=some x):v<n/\x=v:=by
 have hi:=(bn h).1;simp only [Ae,fE,qU] at hi;simp only [Ae,kz,RZ hi,dx,aK] at h;exact ⟨hi,h.symm⟩
theorem Fh (n:Nat):(Ae n).length=n:=by simp [Ae]
theorem Lab.zero (n:Nat):Lab n [] (Ae n):=by
 refine ⟨Fh n,fun v x h => ?_⟩;obtain ⟨_,rfl⟩:=Ww h;exact ⟨.refl _,Xd v,fun u _ h=>by rw [h.nil];exact Ba _⟩
def unL (l:aa Int) (x y:Int):aa Int:=l.map fun z=>if z=(if y > x then y else x) then (if y<x then y else x) else z
theorem anC (l:aa Int) (x y:Int):(unL l x y).length=l.length:=by simp [unL]
theorem awS (l:aa Int) (x:Int):unL l x x=l:=by
 unfold unL;conv=>rhs;rw [<-List.map_id l]
 apply J6;intro z _;simp only [gt_iff_lt,Int.lt_irrefl,if_false,id];split<;>simp_all
theorem Lab.union {n:Nat} {E:aa (Int × Int)} {l:aa Int} (h:Lab n E l) {a b:Nat} {x y:Int} (hx:l[a]?=some x) (hy:l[b]?=some y):Lab n (E++[((a:Int),(b:Int))]) (unL l x y):=by
 refine ⟨by rw [anC,h.1],fun v z hz => ?_⟩;simp only [unL,kz,cO] at hz;obtain ⟨w,hw,hz⟩:=hz;have hax:=h.2 a x hx;have hby:=h.2 b y hy;have Vn:=h.2 v w hw;have ew:∀{c:Nat} {t:Int},l[c]?=some t->(w=t↔Con E v c):=fun hc=>h.iff hw hc
 have hA:=ew hx;have hB:=ew hy;have eY:Con (E++[((a:Int),(b:Int))]) a b:=.of (jN _ (bY.2 rfl));have hm:∀{s t:Int},Con E s t->Con (E++[((a:Int),(b:Int))]) s t:=fun h=>h.mono fun e he=>jc _ he
 by_cases hxy:x=y
 ·subst hxy;have aDv:Con E a b:=(h.iff hx hy).1 rfl;have:z=w:=by
   subst hz;simp only [gt_iff_lt,Int.lt_irrefl,if_false];split<;>simp_all
  subst this;refine ⟨hm Vn.1,Vn.2.1,fun u hu hc => ?_⟩;apply Vn.2.2 u hu;rcases Con.snoc.1 hc with h1|⟨h1,h2⟩|⟨h1,h2⟩
  ·exact h1
  ·exact h1.trans (aDv.trans h2)
  ·exact h1.trans (aDv.symm.trans h2)
 ·have key:∀u:Int,0<=u->Con (E++[((a:Int),(b:Int))]) v u->(w<=u)\/(w=x/\y<=u)\/(w=y/\x<=u):=by
   intro u hu hc;rcases Con.snoc.1 hc with h1|⟨h1,h2⟩|⟨h1,h2⟩
   ·exact .inl (Vn.2.2 u hu h1)
   ·exact .inr (.inl ⟨hA.2 h1,hby.2.2 u hu h2⟩)
   ·exact .inr (.inr ⟨hB.2 h1,hax.2.2 u hu h2⟩)
  by_cases hwx:w=x
  ·have hva:=hA.1 hwx;subst hwx;by_cases bZ:y > w
   ·rw [if_pos bZ,if_neg (by omega)] at hz;subst hz;refine ⟨hm Vn.1,Vn.2.1,fun u hu hc => ?_⟩;rcases key u hu hc with h1|h1|h1<;>omega
   ·rw [if_neg bZ,if_pos rfl,if_pos (by omega)] at hz;subst hz;refine ⟨(hm hva).trans (eY.trans (hm hby.1)),hby.2.1,fun u hu hc => ?_⟩;rcases key u hu hc with h1|h1|h1<;>omega
  ·by_cases hwy:w=y
   ·have hvb:=hB.1 hwy;subst hwy;by_cases bZ:w > x
    ·rw [if_pos bZ,if_pos rfl,if_neg (by omega)] at hz;subst hz;refine ⟨(hm hvb).trans (eY.symm.trans (hm hax.1)),hax.2.1,fun u hu hc => ?_⟩;rcases key u hu hc with h1|h1|h1<;>omega
    ·rw [if_neg bZ,if_neg hwx] at hz;subst hz;refine ⟨hm Vn.1,Vn.2.1,fun u hu hc => ?_⟩;rcases key u hu hc with h1|h1|h1<;>omega
   ·rw [if_neg (by split<;>omega)] at hz;subst hz;refine ⟨hm Vn.1,Vn.2.1,fun u hu hc => ?_⟩;rcases key u hu hc with h1|h1|h1<;>omega
def unE (l:aa Int) (e:Int × Int):aa Int:=unL l (l.getD e.1.toNat 0) (l.getD e.2.toNat 0)
theorem aAl (l:aa Int) (e:Int × Int):(unE l e).length=l.length:=anC _ _ _
theorem Lab.unE {n:Nat} {E:aa (Int × Int)} {l:aa Int} (h:Lab n E l) {e:Int × Int} (he:0<=e.1/\e.1<n/\0<=e.2/\e.2<n):Lab n (E++[e]) (unE l e):=by
 have h1:e.1.toNat<l.length:=by rw [h.1];omega
 have h2:e.2.toNat<l.length:=by rw [h.1];omega
 have:=h.union (a:=e.1.toNat) (b:=e.2.toNat) (aZ h1) (aZ h2);rw [gV he.1,gV he.2.2.1] at this;unfold Go.Fw.unE;rw [dA,dA,aZ h1,aZ h2];exact this
theorem Lab.fold {n:Nat}:∀{D E:aa (Int × Int)} {l:aa Int},Lab n E l->pG n D->Lab n (E++D) (D.foldl Go.Fw.unE l)
 | [],E,l,h,_=>by simpa using h
 | e::D,E,l,h,hD=>by
  have:=Lab.fold (D:=D) (h.unE (hD e (dX ..))) fun x hx=>hD x (dU _ hx)
  rw [iR];rwa [fJ] at this
def labs (n:Nat) (E:aa (Int × Int)):aa Int:=E.foldl unE (Ae n)
theorem lw {n:Nat} {E:aa (Int × Int)} (h:pG n E):Lab n E (labs n E):=by
 have:=(Lab.zero n).fold h;simpa [labs] using this
theorem gp (n:Nat) (E:aa (Int × Int)):(labs n E).length=n:=by
 have:∀(E:aa (Int × Int)) (l:aa Int),(E.foldl unE l).length=l.length:=by
  intro E;induction E with
  | nil=>simp
  | cons e E ih=>intro l;rw [iR,ih,aAl]
 rw [labs,this,Fh]
def rlE (l:aa Int) (e:Int × Int):aa Int:=
 let x:=l.getD e.1.toNat 0
 let y:=l.getD e.2.toNat 0
 let l:=if x<y then l.set e.2.toNat x else l
 if y<x then l.set e.1.toNat y else l
theorem anD (l:aa Int) (e:Int × Int):(rlE l e).length=l.length:=by
 unfold rlE;simp only;split<;>split<;>simp
def lrnd (E:aa (Int × Int)) (l:aa Int):aa Int:=E.foldl rlE l
theorem ajl:∀(E:aa (Int × Int)) (l:aa Int),(lrnd E l).length=l.length
 | [],l=>rfl
 | e::E,l=>by show (lrnd E (rlE l e)).length=_;rw [ajl E,anD]
section
variable {n:Nat} {E:aa (Int × Int)} {L:aa Int}
def Dn (n:Nat) (E:aa (Int × Int)) (l:aa Int):Prop:=l.length=n/\∀(v:Nat) (x:Int),l[v]?=some x->Con E v x/\0<=x
theorem Dn.ge (hL:Lab n E L) {l:aa Int} (h:Dn n E l) {v:Nat} {x y:Int} (hx:l[v]?=some x) (hy:L[v]?=some y):y<=x:=
 (hL.2 v y hy).2.2 x (h.2 v x hx).2 (h.2 v x hx).1
theorem Dn.set {l:aa Int} (h:Dn n E l) {v:Nat} {x:Int} (hc:Con E v x) (h0:0<=x):Dn n E (l.set v x):=by
 refine ⟨by simp [h.1],fun u y hu => ?_⟩;rw [CW] at hu;split at hu
 ·subst v;split at hu
  ·cases hu;exact ⟨hc,h0⟩
  ·cases hu
 ·exact h.2 u y hu
theorem getD_at {l:aa Int} {i:Nat} (h:i<l.length):l[i]?=some (l.getD i 0):=by
 rw [dA,aZ h];rfl
theorem Dn.rlE (hL:Lab n E L) {l:aa Int} (h:Dn n E l) {e:Int × Int} (hm:e∈E) (he:0<=e.1/\e.1<n/\0<=e.2/\e.2<n) :
  Dn n E (rlE l e)/\(∀(v:Nat),(rlE l e).getD v 0<=l.getD v 0) /\
  (l.getD e.1.toNat 0=L.getD e.1.toNat 0->(rlE l e).getD e.2.toNat 0=L.getD e.2.toNat 0) /\
  (l.getD e.2.toNat 0=L.getD e.2.toNat 0->(rlE l e).getD e.1.toNat 0=L.getD e.1.toNat 0):=by
 obtain ⟨h1,h2,h3,h4⟩:=he;have i1:e.1.toNat<l.length:=by rw [h.1];omega
 have i2:e.2.toNat<l.length:=by rw [h.1];omega
 have j1:e.1.toNat<L.length:=by rw [hL.1];omega
 have j2:e.2.toNat<L.length:=by rw [hL.1];omega
 have c12:Con E (e.1.toNat:Int) (e.2.toNat:Int):=by
  rw [gV h1,gV h3];exact .of hm
 have FM:=(hL.iff (getD_at j1) (getD_at j2)).2 c12;have a1:=h.2 _ _ (getD_at i1);have a2:=h.2 _ _ (getD_at i2);have g1:=h.ge hL (getD_at i1) (getD_at j1);have g2:=h.ge hL (getD_at i2) (getD_at j2);have gs:∀(i:Nat) (z:Int) (v:Nat),i<l.length->(l.set i z).getD v 0=if i=v then z else l.getD v 0:=by
  intro i z v hi;rw [dA,CW];split
  ·subst v;simp
  ·rw [dA]
 unfold Go.Fw.rlE;simp only;by_cases bZ:l.getD e.1.toNat 0<l.getD e.2.toNat 0
 ·rw [if_pos bZ,if_neg (by omega)];refine ⟨h.set (c12.symm.trans a1.1) a1.2,fun v => ?_,fun hd => ?_,fun hd => ?_⟩
  ·rw [gs _ _ _ i2];split
   ·subst v;omega
   ·exact Ba _
  ·rw [gs _ _ _ i2,if_pos rfl];omega
  ·omega
 ·rw [if_neg bZ];by_cases NW:l.getD e.2.toNat 0<l.getD e.1.toNat 0
  ·rw [if_pos NW];refine ⟨h.set (c12.trans a2.1) a2.2,fun v => ?_,fun hd => ?_,fun hd => ?_⟩
   ·rw [gs _ _ _ i1];split
    ·subst v;omega
    ·exact Ba _
   ·omega
   ·rw [gs _ _ _ i1,if_pos rfl];omega
  ·rw [if_neg NW];refine ⟨h,fun v=>Ba _,fun hd => ?_,fun hd => ?_⟩<;>omega
theorem Dn.rnd (hL:Lab n E L) (hE:pG n E):∀(D:aa (Int × Int)) (l:aa Int),(∀e,e∈D->e∈E)->Dn n E l ->
  Dn n E (lrnd D l)/\(∀v:Nat,(lrnd D l).getD v 0<=l.getD v 0) /\
  ∀e,e∈D->(l.getD e.1.toNat 0=L.getD e.1.toNat 0->(lrnd D l).getD e.2.toNat 0=L.getD e.2.toNat 0)/\(l.getD e.2.toNat 0=L.getD e.2.toNat 0->(lrnd D l).getD e.1.toNat 0=L.getD e.1.toNat 0)
 | [],l,_,h=>⟨h,fun v=>Ba _,fun e he=>by cases he⟩
 | e::D,l,hs,h=>by
  have hm:=hs e (dX ..)
  obtain ⟨h1,h2,h3,h4⟩:=h.rlE hL hm (hE e hm)
  obtain ⟨k1,k2,k3⟩:=Dn.rnd hL hE D (Go.Fw.rlE l e) (fun x hx=>hs x (dU _ hx)) h1
  -- what is done stays done
  have dn:∀{l':aa Int} (v:Nat),v<n->Dn n E l'->(∀u:Nat,l'.getD u 0<=l.getD u 0)->l.getD v 0=L.getD v 0->l'.getD v 0=L.getD v 0:=by
   intro l' v hv Od dD hd;have hg:=Od.ge hL (getD_at (l:=l') (i:=v) (by rw [Od.1];exact hv)) (getD_at (l:=L) (i:=v) (by rw [hL.1];exact hv));have:=dD v;omega
  have dn':∀(v:Nat),v<n->(Go.Fw.rlE l e).getD v 0=L.getD v 0->(Go.Fw.lrnd D (Go.Fw.rlE l e)).getD v 0=L.getD v 0:=by
   intro v hv hd
   have hg:=k1.ge hL (getD_at (i:=v) (by rw [k1.1];exact hv)) (getD_at (l:=L) (i:=v) (by rw [hL.1];exact hv))
   have:=k2 v
   omega
  refine ⟨k1,fun v=>Int.le_trans (k2 v) (h2 v),fun e' Hr => ?_⟩
  rcases aY.1 Hr with rfl|Hr
  ·have hb:=hE _ hm
   exact ⟨fun hd=>dn' _ (by omega) (h3 hd),fun hd=>dn' _ (by omega) (h4 hd)⟩
  ·have hb:=hE _ (hs e' (dU _ Hr))
   exact ⟨fun hd=>(k3 e' Hr).1 (dn _ (by omega) h1 h2 hd),fun hd=>(k3 e' Hr).2 (dn _ (by omega) h1 h2 hd)⟩
def QY (n:Nat) (L l:aa Int):Nat:=(List.range n).countP fun v=>decide (l.getD v 0=L.getD v 0)
theorem afh {p q:Nat->Bool}:∀{m:aa Nat},(∀x,x∈m->p x=true->q x=true)->(∃x,x∈m/\p x=false/\q x=true)->m.countP p<m.countP q
 | [],_,⟨x,hx,_⟩=>by cases hx
 | a::m,h,⟨x,hx,hp,hq⟩=>by
  rw [List.countP_cons,List.countP_cons];have dD:m.countP p<=m.countP q:=List.countP_mono_left fun y hy=>h y (dU _ hy)
  rcases aY.1 hx with rfl|hx
  ·rw [if_neg (by simp [hp]),if_pos hq];omega
  ·have:=afh (fun y hy=>h y (dU _ hy)) ⟨x,hx,hp,hq⟩;have ha:=h a (dX ..);cases hpa:p a with
   | true=>rw [ha hpa];simp;omega
   | false=>cases hqa:q a<;>simp<;>omega
theorem ajm {D:Int->Prop} {u v:Int} (h:Con E u v) (hu:D u) (hv:¬D v):∃x y:Int,D x/\¬D y/\((x,y)∈E\/(y,x)∈E):=by
 induction h with
 | refl=>exact absurd hu hv
 | @fwd a b _ he ih=>
  by_cases hb:D a
  ·exact ⟨_,_,hb,hv,.inl he⟩
  ·exact ih hb
 | @bwd a b _ he ih=>
  by_cases hb:D a
  ·exact ⟨_,_,hb,hv,.inr he⟩
  ·exact ih hb
def Mi (E:aa (Int × Int)):Nat->aa Int->aa Int
 | 0,l=>l
 | k+1,l=>Mi E k (Go.Fw.lrnd E l)
theorem afi (hL:Lab n E L) (hE:pG n E) {l:aa Int} (h:Dn n E l) (hs:∀v:Nat,v<n->L.getD v 0=v->l.getD v 0=v) (bv:l≠L) :
  QY n L l<QY n L (Go.Fw.lrnd E l):=by
 obtain ⟨k1,k2,k3⟩:=Dn.rnd hL hE E l (fun _ h=>h) h;have stay:∀v:Nat,v<n->l.getD v 0=L.getD v 0->(Go.Fw.lrnd E l).getD v 0=L.getD v 0:=by
  intro v hv hd;have hg:=k1.ge hL (getD_at (i:=v) (by rw [k1.1];exact hv)) (getD_at (l:=L) (i:=v) (by rw [hL.1];exact hv));have:=k2 v;omega
 have:∃v:Nat,v<n/\l.getD v 0≠L.getD v 0:=by
  apply CQ;intro hn;apply bv;apply Xf;intro i;by_cases hi:i<n
  ·rw [getD_at (l:=l) (i:=i) (by rw [h.1];exact hi),getD_at (l:=L) (i:=i) (by rw [hL.1];exact hi)];congr 1;exact CQ fun hc=>hn ⟨i,hi,hc⟩
  ·rw [uY (by rw [h.1];omega),uY (by rw [hL.1];omega)]
 obtain ⟨v,hv,Oc⟩:=this;have gL:=getD_at (l:=L) (i:=v) (by rw [hL.1];exact hv);have hm:=hL.lt gL;have abL:=hL.self gL;have axC:=(hL.2 v _ gL).1;obtain ⟨x,y,hx,hy,he⟩:=ajm (D:=fun z:Int=>0<=z/\z<n/\l.getD z.toNat 0=L.getD z.toNat 0) axC.symm
  ⟨hm.1,hm.2,by
   have e1:L.getD (L.getD v 0).toNat 0=L.getD v 0:=by rw [dA (i:=(L.getD v 0).toNat),abL];rfl
   rw [e1,hs (L.getD v 0).toNat (by omega) (by rw [e1];omega)];omega⟩
  (fun hd=>Oc (by simpa using hd.2.2))
 refine afh (fun z hz hp => ?_) ⟨y.toNat,?_,?_,?_⟩
 ·simp only [decide_eq_true_eq] at hp ⊢;exact stay z (jh.1 hz) hp
 ·rw [jh];rcases he with he|he<;>have:=hE _ he<;>simp only at this<;>omega
 ·simp only [decide_eq_false_iff_not];intro hd;apply hy;rcases he with he|he<;>have:=hE _ he<;>simp only at this<;>exact ⟨by omega,by omega,hd⟩
 ·simp only [decide_eq_true_eq];rcases he with he|he
  ·exact (k3 _ he).1 hx.2.2
  ·exact (k3 _ he).2 hx.2.2
theorem afj (hL:Lab n E L) (hE:pG n E):∀(k:Nat) (l:aa Int),Dn n E l->(∀v:Nat,v<n->L.getD v 0=v->l.getD v 0=v)->n<=QY n L l+k->Mi E k l=L
 | 0,l,h,hs,hc=>by
  have Ao:QY n L l=n:=by
   have:QY n L l<=(List.range n).length:=List.countP_le_length;rw [qU] at this;omega
  apply CQ
  intro bv
  have:=afi hL hE h hs bv
  have:QY n L (Go.Fw.lrnd E l)<=(List.range n).length:=List.countP_le_length
  rw [qU] at this
  omega
 | k+1,l,h,hs,hc=>by
  obtain ⟨k1,k2,_⟩:=Dn.rnd hL hE E l (fun _ h=>h) h
  refine afj hL hE k (Go.Fw.lrnd E l) k1 (fun v hv e => ?_) ?_
  ·have hg:=k1.ge hL (getD_at (i:=v) (by rw [k1.1];exact hv)) (getD_at (l:=L) (i:=v) (by rw [hL.1];exact hv))
   have:=k2 v
   have:=hs v hv e
   omega
  ·by_cases bv:l=L
   ·subst bv
    have:QY n l (Go.Fw.lrnd E l)=n:=by
     unfold QY
     rw [show n=(List.range n).length from by simp,<-qU (n:=n),List.countP_eq_length.2]
     ·simp
     ·intro v hv
      simp only [qU,jh] at hv
      simp only [decide_eq_true_eq]
      have hg:=k1.ge hL (getD_at (i:=v) (by rw [k1.1];exact hv)) (getD_at (l:=l) (i:=v) (by rw [hL.1];exact hv))
      have:=k2 v
      omega
    omega
   ·have:=afi hL hE h hs bv
    omega
theorem aq0 (hE:pG n E):Mi E n (Ae n)=labs n E:=by
 refine afj (lw hE) hE n (Ae n) ⟨Fh n,fun v x h => ?_⟩ (fun v hv e => ?_) (by omega)
 ·obtain ⟨_,rfl⟩:=Ww h;exact ⟨.refl _,Xd v⟩
 ·have:=getD_at (l:=Ae n) (i:=v) (by rw [Fh];exact hv);exact (Ww this).2
end
theorem Wx (a b c:Int):bD (a,b,c)=some (decide (b<=a)&&decide (a<=c),()):=by
 show VX BIG _=_;rw [awv];cases decide (b<=a)<;>rfl
theorem aEb (a b c:Int):kE (a,b,c)=some (decide (b<=a)&&decide (a<=c),()):=by
 show aqt BIG _=_;rw [aEa];cases decide (b<=a)<;>rfl
abbrev Ed:=Int × Int
def Wy (own:aa Int) (s:Int) (y:Ed):Bool:=(decide (0<=y.1)&&decide (y.1<own.length)&&decide (own[y.1.toNat]?=some s))&&(decide (0<=y.2)&&decide (y.2<own.length)&&decide (own[y.2.toNat]?=some s))
theorem kU {α:Type} (p:α->Bool):∀(l:aa α) (s:aa α),l.foldl (fun s y=>if p y then s++[y] else s) s=s++l.filter p
 | [],s=>by simp
 | y::l,s=>by
  rw [iR,kU p l];cases h:p y<;>simp [h]
theorem auo (own:aa Int) (es:aa Ed) (s:Int) (h:own.length<=1048576) (he:es.length<=1048576):Qb (own,es,s)=some (es.filter (Wy own s),()):=by
 have hm:maxLen=9223372036854775807:=by decide
 show Qa BIG _=_;rw [atN,jZ es (by omega) (fun i (c:aa Ed)=>c.length<=i) (fun c y=>if Wy own s y then c++[y] else c) id (by simp) (fun i c y _ (h:c.length<=i)=>by show List.length (if _ then _ else _)<=_;split<;>(try simp)<;>omega)]
 ·rw [kU];rfl
 ·intro self c i y hy (hc:c.length<=i);have hi:=(bn hy).1;simp only [show ((i:Int)<(es.length:Int)) from by omega,decide_true,au];rw [aJ hi,hy,af,Wx,af,Wx,af,dK (by omega),wr (by omega) (by omega)];unfold Wy;by_cases a1:0<=y.1
  ·by_cases a2:y.1<own.length
   ·by_cases b1:0<=y.2
    ·by_cases b2:y.2<own.length
     ·have k1:y.1.toNat<own.length:=by omega
      have k2:y.2.toNat<own.length:=by omega
      rw [dO a1 a2,dO b1 b2,aZ k1,aZ k2];by_cases c1:own[y.1.toNat]=s<;>by_cases c2:own[y.2.toNat]=s<;>simp [a1,a2,b1,b2,c1,c2,show y.1<=(own.length:Int)-1 from by omega,show y.2<=(own.length:Int)-1 from by omega,show c.length+1<=4294967296 from by omega]
     ·have:¬y.2<=(own.length:Int)-1:=by omega
      simp [a1,a2,b1,b2,this]
    ·simp [a1,a2,b1]
   ·have:¬y.1<=(own.length:Int)-1:=by omega
    simp [a1,a2,this]
  ·simp [a1]
 ·intro self c hc;simp
abbrev Sd:=Int × Int × Int × Int × Int × Int
def aS (a b c:Int):Bool:=decide (b<=a)&&decide (a<=c)
theorem dz (a b c:Int):bD (a,b,c)=some (aS a b c,()):=Wx a b c
theorem nR (a b c:Int):kE (a,b,c)=some (aS a b c,()):=aEb a b c
theorem aH {a b c:Int}:aS a b c=true↔b<=a/\a<=c:=by simp [aS]
def fD (n:Int) (e:Ed):Bool:=aS n 1 12&&(aS e.1 0 (n-1)&&(aS e.2 0 (n-1)&&decide (e.1<e.2)))
theorem aup (n:Int) (e:Ed):QB (n,e)=some (fD n e,()):=by
 show QA BIG _=_;rw [aue,nR,af];unfold fD;cases h:aS n 1 12 with
 | false=>rfl
 | true=>
  have:=aH.1 h;rw [wr (by omega) (by omega)];simp only [nR,af,au,gz];cases aS e.1 0 (n-1)<;>cases aS e.2 0 (n-1)<;>rfl
theorem GR (n:Int) (e:Ed):wH (n,e)=some (fD n e,()):=by
 show Pm BIG _=_;rw [atr,dz,af];unfold fD;cases h:aS n 1 12 with
 | false=>rfl
 | true=>
  have:=aH.1 h;rw [wr (by omega) (by omega)];simp only [dz,af,au,gz];cases aS e.1 0 (n-1)<;>cases aS e.2 0 (n-1)<;>rfl
def lsB (x y:Ed):Bool:=decide (x.1<y.1) || (decide (x.1=y.1)&&decide (x.2<y.2))
theorem awT (x y:Ed):Wv (x,y)=some (lsB x y,()):=by
 show Wu BIG _=_;rw [awR];unfold lsB;cases decide (x.1<y.1)<;>cases decide (x.1=y.1)<;>rfl
theorem Mj (x y:Ed):xP (x,y)=some (lsB x y,()):=by
 show KN BIG _=_;rw [apB];unfold lsB;cases decide (x.1<y.1)<;>cases decide (x.1=y.1)<;>rfl
def eP (n:Int) (es:aa Ed) (i:Nat):Bool:=match es[i]? with
 | some y=>fD n y&&(match i with
  | 0=>true
  | j+1=>match es[j]? with
   | some x=>lsB x y
   | none=>false)
 | none=>false
theorem aq1 {n:Int} {es:aa Ed} {y:Ed} (h:es[0]?=some y):eP n es 0=fD n y:=by
 unfold eP;rw [h];simp
theorem aq2 {n:Int} {es:aa Ed} {x y:Ed} {j:Nat} (h:es[j+1]?=some y) (h':es[j]?=some x):eP n es (j+1)=(fD n y&&lsB x y):=by
 unfold eP;rw [h];simp only [h']
def mM (n:Int) (es:aa Ed):Bool:=if ∀i,i<es.length->eP n es i=true then decide ((es.length:Int)<=66) else false
theorem g_ {n:Int} {es:aa Ed} (h:mM n es=true):es.length<=66:=by
 unfold mM at h;split at h
 ·rw [decide_eq_true_eq] at h;omega
 ·cases h
theorem aaW (n:Int) (es:aa Ed) (hl:es.length<=1048576):Dx (n,es)=some (mM n es,()):=by
 have hm:maxLen=9223372036854775807:=by decide
 show LW BIG _=_;rw [aqG,ni es (by omega) (eP n es) false]
 ·unfold mM;split<;>rfl
 ·intro self i y hy;have hi:=(bn hy).1;simp only [show ((i:Int)<(es.length:Int)) from by omega,decide_true,au];rw [aJ hi,hy,af,aup,dK (by omega)];cases i with
  | zero=>
   rw [aq1 hy];cases fD n y<;>simp
  | succ j=>
   have hj:es[j]?=some (es[j]'(by omega)):=aZ (by omega);rw [aq2 hy hj,show (((j+1:Nat):Int)-1)=(j:Int) from by omega,wr (n:=(j:Int)) (by omega) (by omega)];cases hb:fD n y with
   | false=>simp
   | true=>
    simp only [af,bK,az,show (0:Int)<((j+1:Nat):Int) from by omega,decide_true,au,gz];rw [aJ (by omega),hj];simp only [af];simp only [af,awT];cases lsB _ y<;>rfl
 ·intro self;simp
theorem AQ (n:Int) (es:aa Ed) (hl:es.length<=1048576):qG (n,es)=some (mM n es,()):=by
 have hm:maxLen=9223372036854775807:=by decide
 show H_ BIG _=_;rw [ak5,ni es (by omega) (eP n es) false]
 ·unfold mM;split<;>rfl
 ·intro self i y hy;have hi:=(bn hy).1;simp only [show ((i:Int)<(es.length:Int)) from by omega,decide_true,au];rw [aJ hi,hy,af,GR,dK (by omega)];cases i with
  | zero=>
   rw [aq1 hy];cases fD n y<;>simp
  | succ j=>
   have hj:es[j]?=some (es[j]'(by omega)):=aZ (by omega);rw [aq2 hy hj,show (((j+1:Nat):Int)-1)=(j:Int) from by omega,wr (n:=(j:Int)) (by omega) (by omega)];cases hb:fD n y with
   | false=>simp
   | true=>
    simp only [af,bK,az,show (0:Int)<((j+1:Nat):Int) from by omega,decide_true,au,gz];rw [aJ (by omega),hj];simp only [af];rw [aJ hi,hy];simp only [af,Mj];cases lsB _ y<;>rfl
 ·intro self;simp
abbrev qw:=Int × Int × List (Int × Int) × Int
def jQ (n:Int) (o:qw):Bool:=aS n 1 12&&(aS o.1 1 100000&&(aS o.2.1 1 4&&(mM n o.2.2.1&&(if o.2.1=3 then decide (o.2.2.1.length=0)&&aS o.2.2.2 0 (n-1) else if o.2.1=4 then decide (0<o.2.2.1.length)&&decide (o.2.2.2=0) else decide (o.2.2.1.length=1)&&decide (o.2.2.2=0)))))
theorem Mk (n:Int) (o:qw) (hl:o.2.2.1.length<=1048576):xZ (n,o)=some (jQ n o,()):=by
 show KQ BIG _=_;rw [apG];simp only [dz,AQ n _ hl,af];unfold jQ;cases h:aS n 1 12 with
 | false=>rfl
 | true=>
  have:=aH.1 h;rw [wr (by omega) (by omega)];cases h1:aS o.1 1 100000 with
  | false=>rfl
  | true=>
   cases h2:aS o.2.1 1 4 with
   | false=>rfl
   | true=>
    cases h3:mM n o.2.2.1 with
    | false=>rfl
    | true=>
     simp only [bK,az,af,gz];by_cases k3:o.2.1=3
     ·rw [if_pos k3,ak k3,au];by_cases hz:o.2.2.1.length=0
      ·rw [ak hz,ak (by omega)];rfl
      ·rw [aD hz,aD (by omega)];rfl
     ·rw [if_neg k3,aD k3,az];by_cases k4:o.2.1=4
      ·rw [if_pos k4,ak k4,au];by_cases hz:0<o.2.2.1.length
       ·rw [ak hz,ak (by omega)];rfl
       ·rw [aD hz,aD (by omega)];rfl
      ·rw [if_neg k4,aD k4,az];by_cases hz:o.2.2.1.length=1
       ·rw [ak hz,ak (by omega)];rfl
       ·rw [aD hz,aD (by omega)];rfl
theorem aaX (n:Int) (o:qw) (hl:o.2.2.1.length<=1048576):yx (n,o)=some (jQ n o,()):=by
 show LY BIG _=_;rw [aqI];simp only [nR,aaW n _ hl,af];unfold jQ;cases h:aS n 1 12 with
 | false=>rfl
 | true=>
  have:=aH.1 h;rw [wr (by omega) (by omega)];cases h1:aS o.1 1 100000 with
  | false=>rfl
  | true=>
   cases h3:mM n o.2.2.1 with
   | false=>simp
   | true=>
    simp only [bK,az,af,gz];by_cases k3:o.2.1=3
    ·have h2:aS o.2.1 1 4=true:=aH.2 (by omega);rw [h2,if_pos k3,ak k3];rw [aD (by omega:¬o.2.1=1),aD (by omega:¬o.2.1=2)];by_cases hz:o.2.2.1.length=0
     ·rw [ak hz,ak (show (o.2.2.1.length:Int)=0 from by omega)];by_cases hv:o.2.2.2=0<;>simp [hv]
     ·rw [aD hz,aD (show ¬(o.2.2.1.length:Int)=0 from by omega)];by_cases hv:o.2.2.2=0<;>simp [hv]
    ·rw [if_neg k3,aD k3];by_cases hv:o.2.2.2=0
     ·simp only [hv,decide_true,bK,az,af,wW];by_cases k4:o.2.1=4
      ·have h2:aS o.2.1 1 4=true:=aH.2 (by omega);rw [h2,if_pos k4,ak k4,aD (by omega:¬o.2.1=1),aD (by omega:¬o.2.1=2)];simp
      ·rw [if_neg k4,aD k4];by_cases k1:o.2.1=1
       ·have h2:aS o.2.1 1 4=true:=aH.2 (by omega);rw [h2,ak k1];simp;omega
       ·by_cases k2:o.2.1=2
        ·have h2:aS o.2.1 1 4=true:=aH.2 (by omega);rw [h2,aD k1,ak k2];simp;omega
        ·have h2:aS o.2.1 1 4=false:=by
          cases hh:aS o.2.1 1 4 with
          | false=>rfl
          | true=>have:=aH.1 hh;omega
         rw [h2,aD k1,aD k2];rfl
     ·simp [hv]
def NN (l:aa Int) (i:Nat):Bool:=match l[i]? with
 | some y=>aS y 0 i&&(match l[y.toNat]? with
  | some z=>decide (z=y)
  | none=>false)
 | none=>false
theorem auq {l:aa Int} {i:Nat} {y z:Int} (h:l[i]?=some y) (h':l[y.toNat]?=some z):NN l i=(aS y 0 i&&decide (z=y)):=by
 unfold NN;rw [h];simp only [h']
theorem ayy {l:aa Int} {i:Nat} {y:Int} (h:l[i]?=some y) (h':aS y 0 i=false):NN l i=false:=by
 unfold NN;rw [h];simp only [h',Bool.false_and]
def vW (n:Int) (l:aa Int):Bool:=if (l.length:Int)=n then (if ∀i,i<l.length->NN l i=true then true else false) else false
theorem alU (n:Int) (l:aa Int) (hl:l.length<=1048576):Iz (n,l)=some (vW n l,()):=by
 have hm:maxLen=9223372036854775807:=by decide
 show Iy BIG _=_;rw [alF];unfold vW;by_cases hn:(l.length:Int)=n
 ·rw [if_pos hn,ak hn,bK,az,ni l (by omega) (NN l) false]
  ·split<;>rfl
  ·intro self i y hy;have hi:=(bn hy).1;simp only [show ((i:Int)<(l.length:Int)) from by omega,decide_true,au];rw [aJ hi,hy,af,nR,dK (by omega)];cases hb:aS y 0 (i:Int) with
   | false=>rw [ayy hy hb];simp
   | true=>
    have:=aH.1 hb;have hz:l[y.toNat]?=some (l[y.toNat]'(by omega)):=aZ (by omega);rw [auq hy hz,hb];simp only [af,bK,az,gz];rw [dO (by omega) (by omega),hz];simp only [af];by_cases hd:l[y.toNat]'(by omega)=y<;>simp [hd]
  ·intro self;simp
 ·rw [if_neg hn,aD hn];rfl
theorem QZ (n:Int) (l:aa Int) (hl:l.length<=1048576):xR (n,l)=some (vW n l,()):=by
 have hm:maxLen=9223372036854775807:=by decide
 show Es BIG _=_;rw [ail];unfold vW;by_cases hn:(l.length:Int)=n
 ·rw [if_pos hn,ak hn,bK,az];subst hn;rw [ni l (by omega) (NN l) false]
  ·split<;>rfl
  ·intro self i y hy;have hi:=(bn hy).1;simp only [show ((i:Int)<(l.length:Int)) from by omega,decide_true,au];simp only [aJ hi,hy,af,dz,dK (show i<maxLen from by omega)];cases hb:aS y 0 (i:Int) with
   | false=>rw [ayy hy hb];simp
   | true=>
    have:=aH.1 hb;have hz:l[y.toNat]?=some (l[y.toNat]'(by omega)):=aZ (by omega);rw [auq hy hz,hb];simp only [af,bK,az,gz];rw [dO (by omega) (by omega),hz];simp only [af];by_cases hd:l[y.toNat]'(by omega)=y<;>simp [hd]
  ·intro self;simp
 ·rw [if_neg hn,aD hn];rfl
abbrev An:=Int × Bool × List (Int × Int) × List Int
def je (n:Int) (o:An):Bool:=aS n 1 12&&(aS o.1 1 100000&&(mM n o.2.2.1&&vW n o.2.2.2))
theorem U_ (n:Int) (o:An) (hl:o.2.2.1.length<=1048576) (Od:o.2.2.2.length<=1048576):uO (n,o)=some (je n o,()):=by
 show IA BIG _=_;rw [alH];simp only [nR,aaW n _ hl,alU n _ Od,af];unfold je;cases aS n 1 12<;>cases aS o.1 1 100000<;>cases mM n o.2.2.1<;>rfl
theorem II (n:Int) (o:An) (hl:o.2.2.1.length<=1048576) (Od:o.2.2.2.length<=1048576):uN (n,o)=some (je n o,()):=by
 show Il BIG _=_;rw [alh];simp only [dz,AQ n _ hl,QZ n _ Od,af];unfold je;cases aS n 1 12<;>cases aS o.1 1 100000<;>cases mM n o.2.2.1<;>rfl
theorem aaY (x:Ed):lsB x x=false:=by simp [lsB]
theorem anE (x y:Ed):lsB x y=true↔x.1<y.1\/(x.1=y.1/\x.2<y.2):=by simp [lsB]
theorem GU {x y z:Ed} (h:lsB x y=true) (h':lsB y z=true):lsB x z=true:=by
 rw [anE] at *;omega
theorem acK {x y:Ed} (h:lsB x y=false) (h':lsB y x=false):x=y:=by
 have h1:¬lsB x y=true:=by simp [h]
 have h2:¬lsB y x=true:=by simp [h']
 rw [anE] at h1 h2;exact Prod.ext (by omega) (by omega)
theorem aur {x y:Ed} (h:lsB x y=true):lsB y x=false:=by
 cases h':lsB y x with
 | false=>rfl
 | true=>have:=GU h h';rw [aaY] at this;cases this
abbrev Cz (l:List Ed):Prop:=l.Pairwise (fun x y=>lsB x y=true)
def ins (l:aa Ed) (e:Ed):aa Ed:=l.filter (fun y=>lsB y e)++[e]++l.filter (fun y=>lsB e y)
theorem nk {l:aa Ed} {e x:Ed}:x∈ins l e↔x=e\/x∈l:=by
 simp only [ins,bP,jT,bY];constructor
 ·rintro ((h|h)|h)
  ·exact .inr h.1
  ·exact .inl h
  ·exact .inr h.1
 ·rintro (h|h)
  ·exact .inl (.inr h)
  ·cases h1:lsB x e with
   | true=>exact .inl (.inl ⟨h,rfl⟩)
   | false=>
    cases h2:lsB e x with
    | true=>exact .inr ⟨h,rfl⟩
    | false=>exact .inl (.inr (acK h1 h2))
theorem anF {l:aa Ed} {e:Ed} (h:Cz l):Cz (ins l e):=by
 simp only [ins,Cz,fJ,List.pairwise_append,Ap,List.pairwise_cons];refine ⟨h.filter _,⟨fun y hy=>(jT.1 hy).2,h.filter _⟩,fun x hx y hy => ?_⟩;have h1:=(jT.1 hx).2;rcases aY.1 hy with hy|hy
 ·subst hy;exact h1
 ·exact GU h1 (jT.1 hy).2
theorem JK (e:Ed):∀l:aa Ed,(l.filter (fun y=>lsB y e)).length+(l.filter (fun y=>lsB e y)).length<=l.length
 | []=>by simp
 | y::l=>by
  have:=JK e l;simp only [CZ];cases h1:lsB y e<;>cases h2:lsB e y<;>simp
  ·omega
  ·omega
  ·omega
  ·rw [aur h1] at h2;cases h2
theorem aAm (l:aa Ed) (e:Ed):(ins l e).length<=l.length+1:=by
 have:=JK e l;simp only [ins,bq,J5];omega
theorem GV (l:aa Ed) (e:Ed) (hl:l.length<=maxLen):wI (l,e)=some (decide (e∈l),()):=by
 show PE BIG _=_;rw [aty,ni l (Nat.lt_of_le_of_lt hl afg) (fun i=>decide (l[i]?≠some e)) true (fun self i y hy=>by
   have hi:=(bn hy).1
   simp only [show ((i:Int)<(l.length:Int)) from by omega,decide_true,au]
   rw [aJ hi,hy,af,dK (by omega)]
   obtain ⟨y1,y2⟩:=y
   obtain ⟨e1,e2⟩:=e
   by_cases h1:y1=e1<;>by_cases h2:y2=e2<;>simp [h1,h2]) (fun self=>by simp)]
 by_cases h:e∈l
 ·rw [if_neg,ak h]
  ·rfl
  ·intro hh;obtain ⟨i,hi⟩:=List.getElem?_of_mem h;have:=hh i (bn hi).1;rw [decide_eq_true_eq] at this;exact this hi
 ·rw [if_pos,aD h]
  ·rfl
  ·intro i hi;rw [decide_eq_true_eq];exact fun hh=>h (iA hh)
theorem Q0 (l:aa Ed) (e:Ed) (hl:l.length<=1048576):BC (l,e)=some (ins l e,()):=by
 have hm:maxLen=9223372036854775807:=by decide
 show PH BIG _=_;rw [atA,jZ l (by omega) (fun i (c:aa Ed)=>c.length<=i) (fun c y=>if lsB y e then c++[y] else c) id (by simp) (fun i c y _ (h:c.length<=i)=>by show List.length (if _ then _ else _)<=_;split<;>(try simp)<;>omega)]
 ·rw [kU];simp only [id,dN,af];have h1:=sV (fun y=>lsB y e) l;rw [ak (by simp;omega),au,jZ l (by omega) (fun i (c:aa Ed)=>c.length<=l.length+1+i) (fun c y=>if lsB e y then c++[y] else c) id (by simp;omega) (fun i c y _ (h:c.length<=_)=>by show List.length (if _ then _ else _)<=_;split<;>(try simp)<;>omega)]
  ·rw [kU];rfl
  ·intro self c i y hy (hc:c.length<=_);have hi:=(bn hy).1;simp only [show ((i:Int)<(l.length:Int)) from by omega,decide_true,au];simp only [aJ hi,hy,af,Mj,dK (show i<maxLen from by omega)];cases lsB e y with
   | false=>simp
   | true=>simp [show c.length+1<=4294967296 from by omega]
  ·intro self c hc;simp
 ·intro self c i y hy (hc:c.length<=i);have hi:=(bn hy).1;simp only [show ((i:Int)<(l.length:Int)) from by omega,decide_true,au];simp only [aJ hi,hy,af,Mj,dK (show i<maxLen from by omega)];cases lsB y e with
  | false=>simp
  | true=>simp [show c.length+1<=4294967296 from by omega]
 ·intro self c hc;simp
def fM {S α:Type} (st:S->α->ah S):S->aa α->ah S
 | s,[]=>some s
 | s,y::l=>(st s y).bind fun s'=>fM st s' l
theorem Wz {α S B:Type} (a:aa α) (hl:a.length<18446744073709551616) {F:(S × Int->ah (S ⊕ B))->S × Int->ah (S ⊕ B)} (I:Nat->S->Prop) (st:S->α->ah S) (b:B) {s0:S} (h0:I 0 s0)
  (hI:∀i s y s',a[i]?=some y->I i s->st s y=some s'->I (i+1) s')
  (hF:∀self s (i:Nat) y,a[i]?=some y->I i s->F self (s,(i:Int))=match st s y with
   | some s'=>self (s',((i+1:Nat):Int))
   | none=>some (.inr b))
  (hE:∀self s,I a.length s->F self (s,(a.length:Int))=some (.inl s)):aU BIG F (s0,0)=some (match fM st s0 a with
   | some s=>.inl s
   | none=>.inr b):=by
 have:=qI (F:=F) (fun x=>∃i:Nat,x.2=i/\i<=a.length/\I i x.1) (fun x=>a.length-x.2.toNat) (fun x=>match fM st x.1 (a.drop x.2.toNat) with
   | some s=>.inl s
   | none=>.inr b) (fun self x ⟨i,h1,h2,h3⟩ hs => ?_) (n:=BIG) (x:=(s0,0)) (by simp;exact hl) ⟨0,rfl,by simp,h0⟩
 ·simpa using this
 ·obtain ⟨s,j⟩:=x;simp only at h1 h2 h3;subst h1;by_cases hi:i<a.length
  ·have hy:=aZ hi;rw [hF self s i a[i] hy h3];simp only [eH];rw [BX hi];simp only [fM];cases jG:st s a[i] with
   | none=>rfl
   | some s'=>
    simp only [af];rw [hs _ ⟨i+1,rfl,hi,hI _ _ _ _ hy h3 jG⟩ (by simp;omega)];simp
  ·have:i=a.length:=by omega
   subst this;rw [hE self s h3];simp [fM]
def CB (out:aa Ed) (e:Ed):ah (aa Ed):=if e∈out then none else some (ins out e)
theorem WA {out s':aa Ed} {e:Ed} (h:CB out e=some s'):e∉out/\s'=ins out e:=by
 unfold CB at h;split at h
 ·cases h
 ·cases h;exact ⟨by assumption,rfl⟩
theorem anG:∀{A s s':aa Ed},fM CB s A=some s'->A.Nodup/\(∀x,x∈A->x∉s)/\(∀x,x∈s'↔x∈s\/x∈A)/\(Cz s->Cz s')/\s'.length<=s.length+A.length
 | [],s,s',h=>by
  simp only [fM,aK] at h;subst h;exact ⟨List.nodup_nil,by simp,by simp,id,by simp⟩
 | e::A,s,s',h=>by
  simp only [fM,CR] at h;obtain ⟨s1,h1,h2⟩:=h;obtain ⟨bv,rfl⟩:=WA h1;obtain ⟨k1,k2,k3,k4,k5⟩:=anG h2;refine ⟨oG.2 ⟨fun hh=>k2 e hh (nk.2 (.inl rfl)),k1⟩,fun x hx => ?_,fun x => ?_,fun hs=>k4 (anF hs),?_⟩
  ·rcases aY.1 hx with rfl|hx
   ·exact bv
   ·exact fun hh=>k2 x hx (nk.2 (.inr hh))
  ·rw [k3,nk,aY];constructor
   ·rintro ((h|h)|h)
    ·exact .inr (.inl h)
    ·exact .inl h
    ·exact .inr (.inr h)
   ·rintro (h|h|h)
    ·exact .inl (.inr h)
    ·exact .inl (.inl h)
    ·exact .inr h
  ·have:=aAm s e;simp only [bA];omega
theorem ayz:∀{A s:aa Ed},A.Nodup->(∀x,x∈A->x∉s)->∃s',fM CB s A=some s'
 | [],s,_,_=>⟨s,rfl⟩
 | e::A,s,h,h'=>by
  have hn:=oG.1 h;have h1:CB s e=some (ins s e):=by unfold CB;rw [if_neg (h' e (by simp))]
  obtain ⟨s',hs⟩:=ayz (A:=A) (s:=ins s e) hn.2 fun x hx hh=>by
   rcases nk.1 hh with rfl|hh
   ·exact hn.1 hx
   ·exact h' x (by simp [hx]) hh
  exact ⟨s',by simp only [fM,h1,af];exact hs⟩
theorem aB_ (n:Int):bits .and .i64 n 255=n % 256:=by
 have aGY:(BitVec.ofInt 64 255).toNat=2 ^ 8-1:=by decide
 have key:(BitVec.ofInt 64 n &&& BitVec.ofInt 64 255).toNat=(n % ((2 ^ 64:Nat):Int)).toNat % 2 ^ 8:=by
  rw [BitVec.toNat_and,BitVec.toNat_ofInt,aGY,Nat.and_two_pow_sub_one_eq_mod]
 show IntKind.i64.wrap ((BitVec.ofInt 64 n &&& BitVec.ofInt 64 255).toNat:Nat)=n % 256;rw [key,IntKind.wrap_i64];omega
abbrev GX:=List Int × Int × Int
def l8 (c:GX):Prop:=c.1.length<=1048576/\0<=c.2.1/\c.2.1<=c.1.length
theorem yC (c:GX) (hc:l8 c):∃r c',l5 c=some (r,c')/\l8 c'/\0<=r/\r<=255:=by
 have e:l5 c=KE BIG c:=rfl;obtain ⟨h1,h2,h3⟩:=hc;rw [e,apr,aD (by decide),az,aD (by decide),az];simp only [aB_];by_cases h:c.2.1<c.1.length
 ·rw [ak h,au,dO h2 h,aZ (by omega),af,af];refine ⟨_,_,rfl,⟨h1,?_,?_⟩,Int.emod_nonneg _ (by decide),by omega⟩
  ·show 0<=IntKind.wrap .i64 (c.2.1+1);rw [wr (by omega) (by omega)];omega
  ·show IntKind.wrap .i64 (c.2.1+1)<=_;rw [wr (by omega) (by omega)];show c.2.1+1<=(c.1.length:Int)
   omega
 ·rw [aD h,az,af];exact ⟨_,_,rfl,⟨h1,h2,h3⟩,Int.emod_nonneg _ (by decide),by omega⟩
theorem kR (c:GX) (n:Int) (hc:l8 c) (hn:n<=1000000):∃r c',iC (c,n)=some (r,c')/\l8 c'/\0<=r/\(0<n->r<n)/\(n<=0->r=0):=by
 have e:iC (c,n)=H7 BIG (c,n):=rfl;rw [e,akZ];by_cases h0:n<=0
 ·rw [ak h0];exact ⟨0,c,rfl,hc,by omega,by omega,fun _=>rfl⟩
 ·rw [aD h0,az];obtain ⟨r1,c1,k1,o1,a1,b1⟩:=yC c hc;by_cases h1:n<=256
  ·rw [ak h1,au,k1,af,aD (by omega),az];refine ⟨_,_,rfl,o1,Int.tmod_nonneg _ a1,fun _ => ?_,by omega⟩;show Int.tmod r1 n<n;exact Int.tmod_lt_of_pos _ (by omega)
  ·rw [aD h1,az,k1,af];obtain ⟨r2,c2,k2,o2,a2,b2⟩:=yC c1 o1;obtain ⟨r3,c3,k3,o3,a3,b3⟩:=yC c2 o2;obtain ⟨r4,c4,k4,o4,a4,b4⟩:=yC c3 o3;simp only [k2,k3,k4,af];rw [aD (by omega),az];refine ⟨_,_,rfl,o4,?_,fun _=>Int.tmod_lt_of_pos _ (by omega),by omega⟩;refine Int.tmod_nonneg _ ?_;rw [wr (n:=r1*16777216) (by omega) (by omega),wr (n:=r2*65536) (by omega) (by omega),wr (n:=r3*256) (by omega) (by omega),wr (n:=r1*16777216+r2*65536) (by omega) (by omega),wr (n:=r1*16777216+r2*65536+r3*256) (by omega) (by omega),wr (by omega) (by omega)];omega
def GrOk (n:Int) (es:aa Ed):Prop:=2<=n/\n<=12/\Cz es/\(∀e,e∈es->fD n e=true)
theorem Q3 {n:Int} {es:aa Ed} (h:GrOk n es) (hl:es.length<=66):mM n es=true:=by
 unfold mM;rw [if_pos]
 ·rw [decide_eq_true_eq];omega
 ·intro i hi;have hy:=aZ hi;cases i with
  | zero=>rw [aq1 hy];exact h.2.2.2 _ (u6 _)
  | succ j=>
   have hj:=aZ (show j<es.length by omega);rw [aq2 hy hj,h.2.2.2 _ (u6 _),gz];exact RV.1 h.2.2.1 j (j+1) (by omega) (by omega) (by omega)
theorem aaZ (n:Int) (es:aa Ed) (e:Ed) (hl:es.length<=maxLen):Du ((n,es),e)=some (decide (e∈es),()):=by
 show Lf BIG _=_;rw [ap4,GV _ _ hl];rfl
theorem afk (a:aa Int) (ha:a.length<=1048576):∃c,Bw a=some (c,())/\l8 c:=by
 have hm:maxLen=9223372036854775807:=by decide
 have e:Bw a=Pb BIG a:=rfl;rw [e,atl];have:=Ad (F:=fun (self1:Int × Int->ah (Int)) (x0:Int × Int)=>
  Option.bind (bif decide (x0.2<(a.length:Int)) then
   some (decide (x0.2<(4000:Int)))
   else some false:ah (Bool)) fun x2=>
  bif x2 then
   bnd a.length x0.2 fun n3=>
   Option.bind a[n3]? fun y4=>
   self1 (bits .and .i64 (IntKind.wrap .i64 ((IntKind.wrap .i64 ((IntKind.wrap .i64 (x0.1*(131:Int)))+(IntKind.wrap .i64 (y4))))+(7:Int))) (1073741823:Int),IntKind.wrap .i64 (x0.2+(1:Int)))
  else some x0.1) (fun x=>∃i:Nat,x.2=i/\i<=a.length) (fun x=>a.length-x.2.toNat) (fun _ _=>True) (fun self x ⟨i,h1,h2⟩ hs => ?_) (n:=BIG) (x:=(IntKind.wrap .i64 ((13501:Int)+(a.length:Int)),0)) (by simp [BIG];omega) ⟨0,rfl,by omega⟩
 ·obtain ⟨b,hb,_⟩:=this;rw [hb];exact ⟨_,rfl,ha,Ba _,by simp⟩
 ·obtain ⟨z,j⟩:=x;simp only at h1;subst h1;by_cases h:i<a.length
  ·by_cases h':(i:Int)<4000
   ·simp only [show ((i:Int)<(a.length:Int)) from by omega,h',decide_true,au,af];rw [aJ h,aZ h,af,dK (by omega)];exact hs _ ⟨i+1,rfl,h⟩ (by simp;omega)
   ·simp only [show ((i:Int)<(a.length:Int)) from by omega,h',decide_true,decide_false,au,az,af];exact ⟨_,rfl,trivial⟩
  ·simp only [show ¬((i:Int)<(a.length:Int)) from by omega,decide_false,az,af];exact ⟨_,rfl,trivial⟩
def del (es:aa Ed) (e:Ed):aa Ed:=es.filter (fun y=>!decide (y=e))
theorem o8 {es:aa Ed} {e x:Ed}:x∈del es e↔x∈es/\x≠e:=by simp [del]
theorem aAn {es:aa Ed} {e:Ed} (h:Cz es):Cz (del es e):=h.filter _
theorem GrOk.ins {n:Int} {es:aa Ed} {e:Ed} (h:GrOk n es) (he:fD n e=true):GrOk n (ins es e):=⟨h.1,h.2.1,anF h.2.2.1,fun x hx=>by
 rcases nk.1 hx with rfl|hx
 ·exact he
 ·exact h.2.2.2 x hx⟩
theorem GrOk.del {n:Int} {es:aa Ed} {e:Ed} (h:GrOk n es):GrOk n (del es e):=⟨h.1,h.2.1,aAn h.2.2.1,fun x hx=>h.2.2.2 x (o8.1 hx).1⟩
theorem aCa (a:aa Int):aid a=some (decide ((1048576:Int)<(a.length:Int)),()):=aB9 BIG a
theorem aAo (c:GX) (hc:l8 c):∃n c',SF c=some (n,c')/\l8 c'/\2<=n/\n<=12:=by
 have e:SF c=acp BIG c:=rfl;obtain ⟨r,c',k,o,a,b,_⟩:=kR c 11 hc (by omega);have b:=b (by omega);rw [e,aAc,k,af,wr (by omega) (by omega)];exact ⟨_,_,rfl,o,by omega,by omega⟩
theorem aus (n:Int):Pi n=some (if aS n 1 12 then (n,[],true) else (0,[],false),()):=by
 show Ph BIG _=_;rw [atn,dz,af];cases aS n 1 12<;>rfl
theorem alV (a b:Int):H9 (a,b)=some (if aS a 1 3&&aS b 1 12 then (a,b,[],0,false,[],[],true) else (0,0,[],0,false,[],[],false),()):=by
 show H8 BIG _=_;rw [ak2,aus,dz];cases aS a 1 3<;>cases aS b 1 12<;>rfl
abbrev aL:=Int × Int × Int × Bool
theorem aCb (E:aa aL) (hE:E.length<=4294967295) {n:Int} {F:((Int × aa (Int × Int)) × Int->ah (Int × aa (Int × Int)))->(Int × aa (Int × Int)) × Int->ah (Int × aa (Int × Int))}
  (hF:∀self out (i:Nat) y,E[i]?=some y->F self ((n,out),(i:Int))=bif decide (out.length+1<=4294967296) then self ((n,out++[(y.1,y.2.1)]),((i+1:Nat):Int)) else none)
  (hE':∀self x,F self (x,(E.length:Int))=some x):aU BIG F ((n,[]),0)=some (n,E.map fun x=>(x.1,x.2.1)):=by
 rw [jZ E (by omega) (fun i (s:Int × aa (Int × Int))=>s.1=n/\s.2.length=i) (fun s y=>(s.1,s.2++[(y.1,y.2.1)])) id ⟨rfl,rfl⟩ (fun i s y _ h=>⟨h.1,by simp [h.2]⟩)]
 ·have:∀(l:aa aL) (s:Int × aa (Int × Int)),l.foldl (fun s y=>(s.1,s.2++[(y.1,y.2.1)])) s=(s.1,s.2++l.map fun x=>(x.1,x.2.1)):=by
   intro l;induction l with
   | nil=>intro s;simp
   | cons y l ih=>intro s;rw [iR,ih];simp
  rw [this];simp
 ·rintro self ⟨m,out⟩ i y hy ⟨rfl,h2⟩;simp only at h2;have hi:=(bn hy).1;rw [hF self out i y hy,ak (by omega),au]
 ·intro self s _;exact hE' self s
theorem DI (n:Int) (E:aa aL) (hE:E.length<=1048576):l6 (n,E)=some ((n,E.map fun x=>(x.1,x.2.1)),()):=by
 have hm:maxLen=9223372036854775807:=by decide
 show KY BIG _=_;rw [apM];dsimp only;rw [aCb E (by omega)]
 ·rfl
 ·intro self out i y hy;have hi:=(bn hy).1;simp only [show ((i:Int)<(E.length:Int)) from by omega,decide_true,au];rw [aJ hi,hy,af,aJ hi,hy,af,dK (by omega)];rfl
 ·intro self x;simp
theorem acL (x0:Int) (x1:aa Int) (x2:aa Ed) (x3:aa (aa Int)) (x4:aa Int) (x5 x6 x7 x8 x9 x10 x11:Int) (x12:aa Ed) (x13:Int) (x14:aa (Int × Int × Int × Int × Int × Int)):DT (x0,x1,x2,x3,x4,x5,x6,x7,x8,x9,x10,x11,x12,x13,x14)=some (!decide (x9=0),()):=aAe BIG _
theorem rangeLoop {S B:Type} (n:Nat) (hl:n<18446744073709551616) {F:(S × Int->ah B)->S × Int->ah B} (I:Nat->S->Prop) (st:Nat->S->S) (R:S->B) {s0:S} (h0:I 0 s0)
  (hI:∀i s,i<n->I i s->I (i+1) (st i s)) (hF:∀self s (i:Nat),i<n->I i s->F self (s,(i:Int))=self (st i s,((i+1:Nat):Int)))
  (hE:∀self s,I n s->F self (s,(n:Int))=some (R s)):aU BIG F (s0,0)=some (R ((List.range n).foldl (fun s i=>st i s) s0)):=by
 have hr:∀{i y:Nat},(List.range n)[i]?=some y->i<n/\y=i:=by
  intro i y h;have hi:=(bn h).1;rw [qU] at hi;rw [RZ hi] at h;cases h;exact ⟨hi,rfl⟩
 refine jZ (List.range n) (by rw [qU];exact hl) I (fun s i=>st i s) R h0 (fun i s y hy hi => ?_) (fun self s i y hy hi => ?_) (fun self s hs => ?_)
 ·obtain ⟨h1,rfl⟩:=hr hy;exact hI _ _ h1 hi
 ·obtain ⟨h1,rfl⟩:=hr hy;exact hF _ _ _ h1 hi
 ·rw [qU] at hs ⊢;exact hE _ _ hs
theorem aut {α:Type} (f:Nat->α) (n:Nat) (s:aa α):(List.range n).foldl (fun s i=>s++[f i]) s=s++(List.range n).map f:=by
 induction n with
 | zero=>simp
 | succ n ih=>rw [List.range_succ,CX,ih];simp
theorem awU (n:Nat) (hn:n<=1000000) {F:(aa Int × Int->ah (aa Int))->aa Int × Int->ah (aa Int)}
  (hF:∀self out (i:Nat),i<n->out.length=i->F self (out,(i:Int))=self (out++[(i:Int)],((i+1:Nat):Int)))
  (hE:∀self out,F self (out,(n:Int))=some out):aU BIG F ([],0)=some (Ae n):=by
 rw [rangeLoop n (by omega) (fun i (s:aa Int)=>s.length=i) (fun i s=>s++[(i:Int)]) id rfl (fun i s _ h=>by simp [h]) (fun self s i hi h=>hF self s i hi h) (fun self s _=>hE self s),aut];rfl
theorem aq3 (E:aa (Int × Int)) (n:Nat):∀l:aa Int,(List.range n).foldl (fun s _=>lrnd E s) l=Mi E n l:=by
 have:∀(m:Nat) (l:aa Int),Mi E (m+1) l=lrnd E (Mi E m l):=by
  intro m;induction m with
  | zero=>intro l;rfl
  | succ m ih=>intro l;show Mi E (m+1) (lrnd E l)=_;rw [ih];rfl
 induction n with
 | zero=>intro l;rfl
 | succ n ih=>intro l;rw [List.range_succ,CX,ih,this];rfl
theorem Q4 (n:Nat) (E:aa (Int × Int)) (hn:n<=12) (hE:pG n E) (hl:E.length<=4611686018427387904):xL ((n:Int),E)=some (labs n E,()):=by
 have hm:maxLen=9223372036854775807:=by decide
 show Ep BIG _=_;rw [aii,awU n (by omega)]
 ·rw [af,rangeLoop n (by omega) (fun i (s:aa Int)=>s.length=n) (fun _ s=>lrnd E s) id (Fh n) (fun i s _ h=>by rw [ajl];exact h)]
  ·rw [aq3,aq0 hE];rfl
  ·intro self s i hi hs;simp only [show ((i:Int)<(n:Int)) from by omega,decide_true,au];rw [jZ E (by omega) (fun _ (s:aa Int)=>s.length=n) rlE id hs (fun i s y _ h=>by rw [anD];exact h)]
   ·rw [af,dK (by omega)];rfl
   ·intro self s i y hy hs;have hi:=(bn hy).1;obtain ⟨h1,h2,h3,h4⟩:=hE y (iA hy);have i1:y.1.toNat<s.length:=by omega
    have i2:y.2.toNat<s.length:=by omega
    simp only [show ((i:Int)<(E.length:Int)) from by omega,decide_true,au];rw [dK (by omega),aJ hi,hy,af,dO h1 (by omega),getD_at i1,af,aJ hi,hy,af,dO h3 (by omega),getD_at i2,af];unfold rlE;simp only;by_cases c1:s.getD y.1.toNat 0<s.getD y.2.toNat 0
    ·rw [ak c1,au,aJ hi,hy,af,dO h3 (by omega),getD_at i2,af,af,aD (by omega),az,if_pos c1,if_neg (by omega)];rfl
    ·rw [aD c1,az,af,if_neg c1];by_cases c2:s.getD y.2.toNat 0<s.getD y.1.toNat 0
     ·rw [ak c2,au,aJ hi,hy,af,dO h1 (by omega),getD_at i1,af,if_pos c2];rfl
     ·rw [aD c2,az,if_neg c2];rfl
   ·intro self s _;simp
  ·intro self s _;simp
 ·intro self out i hi hl;simp only [show ((i:Int)<(n:Int)) from by omega,decide_true,au];rw [ak (by simp;omega),au,dK (by omega)]
 ·intro self out;simp
abbrev Hd:=Int × List Int × List (Int × Int) × List (List Int) × List Int × Int × Int × Int × Int × Int × Int × Int × List (Int × Int) × Int × List (Int × Int × Int × Int × Int × Int)
def Q5 (n k:Nat):aa Int:=(List.range n).map fun (i:Nat)=>1+Int.tmod (i:Int) k
def hdN (n k:Nat):Hd:=((n:Int),Q5 n k,[],List.replicate k (Ae n),List.replicate k 0,0,0,0,0,0,0,0,[],0,[])
theorem awV (f:Nat->Int) (n:Nat) (s:Hd):(List.range n).foldl (fun (s:Hd) i=>(s.1,s.2.1++[f i],s.2.2)) s=(s.1,s.2.1++(List.range n).map f,s.2.2):=by
 induction n with
 | zero=>simp
 | succ n ih=>rw [List.range_succ,CX,ih];simp
theorem awW (L:aa Int) (n:Nat) (s:Hd):(List.range n).foldl (fun (s:Hd) i=>(s.1,s.2.1,s.2.2.1,s.2.2.2.1++[L],s.2.2.2.2)) s=(s.1,s.2.1,s.2.2.1,s.2.2.2.1++List.replicate n L,s.2.2.2.2):=by
 induction n with
 | zero=>simp
 | succ n ih=>rw [List.range_succ,CX,ih,List.replicate_succ'];simp
theorem aCc {i k:Nat} (hk:1<=k) (mR:k<=3):0<=Int.tmod (i:Int) k/\Int.tmod (i:Int) k<3:=by
 rw [abO (by omega)];have h1:=Int.emod_nonneg (i:Int) (show (k:Int)≠0 from by omega);have h2:=Int.emod_lt_of_pos (i:Int) (show (0:Int)<(k:Int) from by omega);omega
def mO (n:Int) (es:aa Ed):Bool:=aS n 1 12&&mM n es
theorem aa0 (n:Int) (es:aa Ed) (hl:es.length<=1048576):Dq (n,es)=some (mO n es,()):=by
 show KZ BIG _=_;rw [apO,dz,AQ n es hl];unfold mO;cases aS n 1 12<;>rfl
theorem o9 {n:Int} {es:aa Ed} (h:mM n es=true):(∀e,e∈es->fD n e=true)/\Cz es/\es.length<=66:=by
 have hl:=g_ h;unfold mM at h;split at h;case isFalse=>cases h
 case isTrue hp=>
 have hc:∀i (h:i+1<es.length),fD n es[i+1]=true/\lsB es[i] es[i+1]=true:=by
  intro i hi;have:=hp (i+1) hi;rw [aq2 (aZ hi) (aZ (by omega)),aM] at this;exact this
 have h0:∀i (h:i<es.length),fD n es[i]=true:=by
  intro i hi;cases i with
  | zero=>have:=hp 0 hi;rwa [aq1 (aZ hi)] at this
  | succ i=>exact (hc i hi).1
 refine ⟨fun e he => ?_,RV.2 fun i j hi hj wU => ?_,hl⟩
 ·obtain ⟨i,hi,rfl⟩:=CV he;exact h0 i hi
 ·have:∀d (h:i+1+d<es.length),lsB es[i] es[i+1+d]=true:=by
   intro d;induction d with
   | zero=>intro h;exact (hc i h).2
   | succ d ih=>intro h;exact GU (ih (by omega)) (hc (i+1+d) h).2
  have:=this (j-(i+1)) (by omega);simpa [show i+1+(j-(i+1))=j from by omega] using this
theorem il {n:Nat} {e:Ed} (h:fD (n:Int) e=true):0<=e.1/\e.1<n/\0<=e.2/\e.2<n/\e.1<e.2:=by
 simp only [fD,aM,aH,decide_eq_true_eq] at h;omega
theorem set_self {α:Type} {l:aa α} {i:Nat} {y:α} (h:l[i]?=some y):l.set i y=l:=by
 apply Xf;intro j;rw [CW];split
 ·subst j;have:=(bn h).1;simp [this,h.symm]
 ·rfl
def tgB (n:Int) (es:aa Ed) (a b:Int):Bool:=mO n es&&(aS a 0 (n-1)&&(aS b 0 (n-1)&&decide ((labs n.toNat es).getD a.toNat 0=(labs n.toNat es).getD b.toNat 0)))
def WB (n:Int) (es:aa Ed) (e:Ed):Int × aa Ed × Bool:=if mO n es&&(fD n e && !decide (e∈es)) then (n,ins es e,true) else (0,[],false)
def aq4 (n:Int) (es:aa Ed) (e:Ed):Int × aa Ed × Bool:=if mO n es&&decide (e∈es) then (n,del es e,true) else (0,[],false)
theorem aq5 (n:Int) (es:aa Ed) (e:Ed) (hl:es.length<=1048576):Li ((n,es),e)=some (WB n es e,()):=by
 have hm:maxLen=9223372036854775807:=by decide
 show Lh BIG _=_;rw [ap6,aa0 n es hl,GR,aaZ n es e (by omega),Q0 es e hl];unfold WB;cases hg:mO n es with
 | false=>rfl
 | true=>
  cases he:fD n e with
  | false=>rfl
  | true=>cases decide (e∈es)<;>rfl
theorem NP (es:aa Ed) (e:Ed) (hl:es.length<=1048576):vk (es,e)=some (del es e,()):=by
 have hm:maxLen=9223372036854775807:=by decide
 show Ca BIG _=_;rw [afW,jZ es (by omega) (fun i (c:aa Ed)=>c.length<=i) (fun c y=>if (!decide (y=e)) then c++[y] else c) id (by simp) (fun i c y _ (h:c.length<=i)=>by show List.length (if _ then _ else _)<=_;split<;>(try simp)<;>omega)]
 ·rw [kU];rfl
 ·intro self c i y hy (hc:c.length<=i);have hi:=(bn hy).1;simp only [show ((i:Int)<(es.length:Int)) from by omega,decide_true,au];rw [aJ hi,hy,af,dK (by omega)];have hd:(decide (y.1=e.1)&&(decide (y.2=e.2)&&true))=decide (y=e):=by
   obtain ⟨y1,y2⟩:=y;obtain ⟨e1,e2⟩:=e;by_cases h1:y1=e1<;>by_cases h2:y2=e2<;>simp [h1,h2]
  rw [hd];cases decide (y=e) with
  | true=>simp
  | false=>simp [aJ hi,hy,show c.length+1<=4294967296 from by omega]
 ·intro self c hc;simp
def iq (a b:Int):Ed:=if a<b then (a,b) else (b,a)
theorem aq6 (i o a b:Int):KW (i,o,a,b)=some (iq a b,()):=by
 show KV BIG _=_;rw [apK];unfold iq;dsimp only;by_cases h:a<b
 ·rw [ak h,au,if_pos h]
 ·rw [aD h,az,if_neg h]
def y_ (n:Int) (es:aa Ed) (o a b:Int):Int × aa Ed × Int:=
 if aS o 1 4&&(decide (0<=a)&&decide (a<n)) then
  if o=4 then (n,es,if aS b 1 3 then 1 else 3)
  else if (decide (0<=b)&&decide (b<n)) && !(decide (a=b) && !decide (o=3)) then
   if o=3 then (n,es,if tgB n es a b then 1 else 2)
   else
    let r:=if o=2 then aq4 n es (iq a b) else WB n es (iq a b)
    if r.2.2 then (r.1,r.2.1,1) else (n,es,2)
  else (n,es,3)
 else (n,es,3)
theorem aa1 {α S X B:Type} (a:aa α) (hl:a.length<18446744073709551616) {F:(X->ah B)->X->ah B} (mk:S->Int->X) (I:Nat->S->Prop) (st:S->α->S) (R:S->B) {s0:S} (h0:I 0 s0)
  (hI:∀i s y,a[i]?=some y->I i s->I (i+1) (st s y)) (hF:∀self s (i:Nat) y,a[i]?=some y->I i s->F self (mk s (i:Int))=self (mk (st s y) ((i+1:Nat):Int)))
  (hE:∀self s,I a.length s->F self (mk s (a.length:Int))=some (R s)):aU BIG F (mk s0 0)=some (R (a.foldl st s0)):=by
 have key:∀(k n i:Nat) (s:S),a.length-i<=k->k<n->i<=a.length->I i s->it F n (mk s (i:Int))=some (R ((a.drop i).foldl st s)):=by
  intro k;induction k with
  | zero=>
   intro n i s hk hn hi hs;obtain ⟨m,rfl⟩:∃m,n=m+1:=⟨n-1,by omega⟩
   have:i=a.length:=by omega
   subst this;show F (it F m) _=_;rw [hE _ _ hs];simp
  | succ k ih=>
   intro n i s hk hn hi hs;obtain ⟨m,rfl⟩:∃m,n=m+1:=⟨n-1,by omega⟩
   show F (it F m) _=_;by_cases jw:i<a.length
   ·have hy:=aZ jw;rw [hF _ _ _ _ hy hs,ih m (i+1) _ (by omega) (by omega) jw (hI _ _ _ hy hs),BX jw,iR]
   ·have:i=a.length:=by omega
    subst this;rw [hE _ _ hs];simp
 have:=key a.length BIG 0 s0 (by omega) (by simpa [BIG] using hl) (by omega) h0;show it F BIG (mk s0 0)=_;simpa using this
theorem ayA {α S T X B:Type} (a:aa α) (hl:a.length<18446744073709551616) {F:(X->ah (T ⊕ B))->X->ah (T ⊕ B)} (mk:S->Int->X) (I:Nat->S->Prop) (st:S->α->ah S) (R:S->T) (b:B) {s0:S} (h0:I 0 s0)
  (hI:∀i s s' y,a[i]?=some y->I i s->st s y=some s'->I (i+1) s') (hF:∀self s (i:Nat) y,a[i]?=some y->I i s->F self (mk s (i:Int))=match st s y with|some s'=>self (mk s' ((i+1:Nat):Int))|none=>some (.inr b))
  (hE:∀self s,I a.length s->F self (mk s (a.length:Int))=some (.inl (R s))):aU BIG F (mk s0 0)=some (match fM st s0 a with|some s=>.inl (R s)|none=>.inr b):=by
 have key:∀(k n i:Nat) (s:S),a.length-i<=k->k<n->i<=a.length->I i s->it F n (mk s (i:Int))=some (match fM st s (a.drop i) with|some s=>.inl (R s)|none=>.inr b):=by
  intro k;induction k with
  | zero=>
   intro n i s hk hn hi hs;obtain ⟨m,rfl⟩:∃m,n=m+1:=⟨n-1,by omega⟩
   have:i=a.length:=by omega
   subst this;show F (it F m) _=_;rw [hE _ _ hs,List.drop_length];rfl
  | succ k ih=>
   intro n i s hk hn hi hs;obtain ⟨m,rfl⟩:∃m,n=m+1:=⟨n-1,by omega⟩
   show F (it F m) _=_;by_cases jw:i<a.length
   ·have hy:=aZ jw;rw [hF _ _ _ _ hy hs,BX jw];cases jG:st s a[i] with
    | none=>simp only [fM,jG,Option.bind_none]
    | some s'=>
     simp only;rw [ih m (i+1) _ (by omega) (by omega) jw (hI _ _ _ _ hy hs jG)];simp only [fM,jG,af]
   ·have:i=a.length:=by omega
    subst this;rw [hE _ _ hs,List.drop_length];rfl
 have:=key a.length BIG 0 s0 (by omega) (by simpa [BIG] using hl) (by omega) h0;show it F BIG (mk s0 0)=_;simpa using this
def BA (l:aa UInt8):ByteArray:=⟨l.toArray⟩
theorem bE (l:aa UInt8):(BA l).size=l.length:=by
 have h:l.toArray.size=l.length:=by simp
 exact h
theorem iX (a b:aa UInt8):BA a++BA b=BA (a++b):=by
 apply ByteArray.ext;simp [BA,ByteArray.data_append]
theorem aa2 (l:aa UInt8) (i:Nat):(BA l)[i]?=l[i]?:=by
 by_cases h:i<l.length
 ·rw [getElem?_pos (BA l) i h,aZ h];rfl
 ·rw [getElem?_neg (BA l) i h,uY (by omega)]
theorem Q6 (l:aa UInt8) (a b:Nat):(BA l).extract a b=BA ((l.drop a).take (b-a)):=by
 apply ByteArray.ext;simp [BA,ByteArray.data_extract]
theorem aAp (l:aa UInt8):∀(k i:Nat) (r:aa UInt8),l.length-i<=k->ByteArray.toList.loop (BA l) i r=r.reverse++l.drop i:=by
 intro k;induction k with
 | zero=>
  intro i r h;unfold ByteArray.toList.loop;rw [if_neg (by rw [bE];omega),List.drop_eq_nil_iff.2 (by omega),kY]
 | succ k ih=>
  intro i r h;unfold ByteArray.toList.loop;by_cases hi:i<l.length
  ·rw [if_pos (by rw [bE];exact hi),ih (i+1) _ (by omega),BX hi];have:(BA l).get! i=l[i]:=by
    show (BA l).data[i]! = _;simp [BA,hi]
   rw [this];simp
  ·rw [if_neg (by rw [bE];exact hi),List.drop_eq_nil_iff.2 (by omega),kY]
theorem pI (l:aa UInt8):(BA l).toList=l:=by
 unfold ByteArray.toList;rw [aAp l l.length 0 [] (by omega)];simp
theorem Vd (ns:aa Int):dW ns=BA (ns.map fun n=>UInt8.ofNat n.toNat):=by
 have:∀(ns:aa Int) (l:aa UInt8),ns.foldl (fun r n=>r.push (UInt8.ofNat n.toNat)) (BA l)=BA (l++ns.map fun n=>UInt8.ofNat n.toNat):=by
  intro ns;induction ns with
  | nil=>intro l;simp
  | cons n ns ih=>
   intro l;rw [iR];have:(BA l).push (UInt8.ofNat n.toNat)=BA (l++[UInt8.ofNat n.toNat]):=by
    apply ByteArray.ext;simp [BA,ByteArray.push]
   rw [this,ih];simp
 have:=this ns [];rw [dN] at this;exact this
def eB (n:Int):UInt8:=UInt8.ofNat (n % 256).toNat
theorem wrap_u8 (n:Int):IntKind.wrap .u8 n=n % 256:=by
 simp [IntKind.wrap,IntKind.signed,IntKind.bits]
theorem WE (ns:aa Int):dW (ns.map (IntKind.wrap .u8))=BA (ns.map eB):=by
 rw [Vd,wX];rfl
theorem awX {ns:aa Int} (h:∀z,z∈ns->0<=z):dW ns=BA (ns.map eB):=by
 rw [Vd];congr 1;apply J6;intro n hn;have:=h n hn;unfold eB;apply UInt8.toNat_inj.1;simp only [UInt8.toNat_ofNat'];omega
theorem anH (n:Nat):eB (n:Int)=UInt8.ofNat n:=by
 unfold eB;have:((n:Int) % 256).toNat=n % 256:=by omega
 rw [this];apply UInt8.toNat_inj.1;simp [UInt8.toNat_ofNat]
theorem GY {n:Nat} (h:n<256):(eB (n:Int)).toNat=n:=by
 rw [anH];simp [UInt8.toNat_ofNat];omega
theorem ajn (b:UInt8):eB (b.toNat:Int)=b:=by
 rw [anH];simp
def vF:Nat->Nat->aa UInt8
 | 0,v=>[eB (v:Int)]
 | k+1,v=>if v<=127 then [eB (v:Int)] else eB ((v % 128+128:Nat):Int)::vF k (v / 128)
def vB (v:Nat):aa UInt8:=vF 9 v
theorem Af:∀(k v:Nat),v<128 ^ (k+1)->vF (k+1) v=vF k v
 | 0,v,h=>by
  have:v<=127:=by omega
  simp [vF,this]
 | k+1,v,h=>by
  unfold vF;split
  ·rfl
  ·congr 1;apply Af k;rw [Xb (by omega)];rw [A8] at h;exact h
theorem auu:∀(k v:Nat),(vF k v).length<=k+1
 | 0,v=>by simp [vF]
 | k+1,v=>by
  unfold vF;split
  ·simp
  ·have:=auu k (v / 128);simp;omega
theorem Fj {v:Nat} (h:v<34359738368):vB v=vF 4 v:=by
 unfold vB;rw [Af 8 v (by omega),Af 7 v (by omega),Af 6 v (by omega),Af 5 v (by omega),Af 4 v (by omega)]
theorem eO {v:Nat} (h:v<34359738368):(vB v).length<=5:=by rw [Fj h];exact auu 4 v
theorem SI {v:Nat} (h:v<=127):vB v=[eB (v:Int)]:=by simp [vB,vF,h]
theorem aq7 {v:Nat} (h:127<v) (h':v<34359738368):vB v=eB ((v % 128+128:Nat):Int)::vB (v / 128):=by
 rw [Fj (v:=v / 128) (by omega),Fj h'];show (if v<=127 then _ else _::vF 3 (v / 128))=_;rw [if_neg (by omega),<-Af 3 (v / 128) (by omega)]
theorem aa3 {n:Nat} (h:n<=9223372036854775807):IntKind.wrap .i64 (n:Int)=n:=wr (by omega) (by omega)
theorem ayB (v:Nat) (hv:v<34359738368) {F:(aa Int × Int->ah (aa Int × Int))->aa Int × Int->ah (aa Int × Int)}
  (hF:∀self (out:aa Int) (x:Nat),x<34359738368->out.length<=100->F self (out,(x:Int))=if 127<x then self (out++[((x % 128+128:Nat):Int)],((x / 128:Nat):Int)) else some (out,(x:Int))) :
  ∃(out:aa Int) (x:Nat),aU BIG F ([],(v:Int))=some (out,(x:Int))/\out.length<=10/\x<=127/\(out++[(x:Int)]).map eB=vB v/\∀z,z∈out->0<=z:=by
 have key:∀(k n:Nat) (out:aa Int) (x:Nat),x<128 ^ (k+1)->k<=4->k<n->out.length<=10-k->(∀z,z∈out->0<=z)->∃(out':aa Int) (x':Nat),it F n (out,(x:Int))=some (out',(x':Int))/\out'.length<=10/\x'<=127/\(out'++[(x':Int)]).map eB=out.map eB++vB x/\∀z,z∈out'->0<=z:=by
  intro k;induction k with
  | zero=>
   intro n out x hx hk4 hk ho hz;obtain ⟨m,rfl⟩:∃m,n=m+1:=⟨n-1,by omega⟩
   refine ⟨out,x,?_,by omega,by omega,?_,hz⟩
   ·show F (it F m) _=_;rw [hF _ _ _ (by omega) (by omega),if_neg (by omega)]
   ·rw [SI (by omega)];simp
  | succ k ih=>
   intro n out x hx hk4 hk ho hz;obtain ⟨m,rfl⟩:∃m,n=m+1:=⟨n-1,by omega⟩
   have hx5:x<34359738368:=mU hx (Nat.pow_le_pow_right (by omega) (show k+1+1<=5 by omega));by_cases h:127<x
   ·have zh:x / 128<128 ^ (k+1):=by
     rw [Xb (by omega)];rw [A8] at hx;exact hx
    obtain ⟨out',x',g1,g2,g3,g4,g5⟩:=ih m (out++[((x % 128+128:Nat):Int)]) (x / 128) zh (by omega) (by omega) (by simp;omega) (fun z hm=>by
     rcases bP.1 hm with hm|hm
     ·exact hz z hm
     ·rw [bY.1 hm];omega)
    refine ⟨out',x',?_,g2,g3,?_,g5⟩
    ·show F (it F m) _=_;rw [hF _ _ _ hx5 (by omega),if_pos h];exact g1
    ·rw [g4,aq7 h hx5];simp
   ·refine ⟨out,x,?_,by omega,by omega,?_,hz⟩
    ·show F (it F m) _=_;rw [hF _ _ _ hx5 (by omega),if_neg h]
    ·rw [SI (by omega)];simp
 obtain ⟨out,x,h1,h2,h3,h4,h5⟩:=key 4 BIG [] v hv (by omega) (by decide) (by simp) (fun z hz=>by cases hz);exact ⟨out,x,h1,h2,h3,by simpa using h4,h5⟩
theorem aEc (x:Nat) (hx:x<34359738368):IntKind.wrap .u8 (IntKind.wrap .i64 (Int.tmod (x:Int) 128+128))=((x % 128+128:Nat):Int)/\IntKind.wrap .i64 (Int.tdiv (x:Int) 128)=((x / 128:Nat):Int):=by
 rw [abO (by omega),aoC (by omega)];constructor
 ·rw [wr (by omega) (by omega),wrap_u8];omega
 ·rw [wr (by omega) (by omega)];omega
theorem auv (self1:aa Int × Int->ah (aa Int × Int)) (out:aa Int) (x:Nat) (hx:x<34359738368) (ho:out.length<=100) :
  (bif decide ((127:Int)<(x:Int)) then
   bif decide ((128:Int)=0) then
    none
   else bif decide (out.length+([IntKind.wrap .u8 (IntKind.wrap .i64 ((Int.tmod (x:Int) (128:Int))+(128:Int)))]).length<=4294967296) then
    bif decide ((128:Int)=0) then
     none
    else self1 (out++([IntKind.wrap .u8 (IntKind.wrap .i64 ((Int.tmod (x:Int) (128:Int))+(128:Int)))]),IntKind.wrap .i64 (Int.tdiv (x:Int) (128:Int)))
   else none
  else some (out,(x:Int)))=if 127<x then self1 (out++[((x % 128+128:Nat):Int)],((x / 128:Nat):Int)) else some (out,(x:Int)):=by
 obtain ⟨s1,s2⟩:=aEc x hx;simp only [s1,s2];rw [ak (show out.length+[((x % 128+128:Nat):Int)].length<=4294967296 by simp;omega)];by_cases h:127<x
 ·rw [ak (by omega),if_pos h];rfl
 ·rw [aD (by omega),if_neg h];rfl
theorem aCd {v x:Nat} {out:aa Int} (h3:x<=127) (h4:(out++[(x:Int)]).map eB=vB v) (h5:∀z,z∈out->0<=z):dW (out++[IntKind.wrap .u8 (x:Int)])=BA (vB v):=by
 have:out++[IntKind.wrap .u8 (x:Int)]=out++[(x:Int)]:=by rw [wrap_u8,Int.emod_eq_of_lt (by omega) (by omega)]
 rw [this,awX (fun z hm=>by
  rcases bP.1 hm with hm|hm
  ·exact h5 z hm
  ·rw [bY.1 hm];omega),h4]
theorem kv (v:Nat) (hv:v<34359738368):ji (v:Int)=some (BA (vB v),()):=by
 show Qg BIG _=_;rw [atP];obtain ⟨out,x,h1,h2,h3,h4,h5⟩:=ayB v hv (F:=fun self1 x0=>
  bif decide ((127:Int)<x0.2) then
   bif decide ((128:Int)=0) then
    none
   else bif decide (x0.1.length+([IntKind.wrap .u8 (IntKind.wrap .i64 ((Int.tmod x0.2 (128:Int))+(128:Int)))]).length<=4294967296) then
    bif decide ((128:Int)=0) then
     none
    else self1 (x0.1++([IntKind.wrap .u8 (IntKind.wrap .i64 ((Int.tmod x0.2 (128:Int))+(128:Int)))]),IntKind.wrap .i64 (Int.tdiv x0.2 (128:Int)))
   else none
  else some (x0.1,x0.2)) (fun self out x hx ho=>auv self out x hx ho)
 rw [h1];simp only [af];rw [ak (by simp;omega),au,aCd h3 h4 h5]
theorem nS (v:Int):jY v=some (if aS v 0 1000000000 then (BA (vB v.toNat),true) else (BA [],false),()):=by
 show LM BIG _=_;rw [aqz,nR,af];cases h:aS v 0 1000000000 with
 | false=>rfl
 | true=>
  rw [aH] at h;obtain ⟨v,rfl⟩:∃w:Nat,v=w:=⟨v.toNat,by omega⟩
  obtain ⟨out,x,h1,h2,h3,h4,h5⟩:=ayB v (by omega) (F:=fun self1 x0=>
   bif decide ((127:Int)<x0.2) then
    bif decide ((128:Int)=0) then
     none
    else bif decide (x0.1.length+([IntKind.wrap .u8 (IntKind.wrap .i64 ((Int.tmod x0.2 (128:Int))+(128:Int)))]).length<=4294967296) then
     bif decide ((128:Int)=0) then
      none
     else self1 (x0.1++([IntKind.wrap .u8 (IntKind.wrap .i64 ((Int.tmod x0.2 (128:Int))+(128:Int)))]),IntKind.wrap .i64 (Int.tdiv x0.2 (128:Int)))
    else none
   else some (x0.1,x0.2)) (fun self out x hx ho=>auv self out x hx ho)
  simp only [bK,az,if_true,eH];rw [h1];simp only [af];rw [ak (by simp;omega),au,aCd h3 h4 h5]
theorem Ml (x:Int):dW [IntKind.wrap .u8 x]=BA [eB x]:=WE [x]
theorem aGa (x y:Int):dW [IntKind.wrap .u8 x,IntKind.wrap .u8 y]=BA [eB x,eB y]:=WE [x,y]
theorem DJ (v:Int):tL v=some (BA [eB v],()):=by
 show Ls BIG _=_;rw [aqg,Ml]
def JL (b:Bool):aa UInt8:=[if b then 1 else 0]
theorem aq8 (b:Bool):Lr b=some (BA (JL b),()):=by
 show Lp BIG _=_;rw [aqe];cases b<;>rfl
def e2 (e:Ed):aa UInt8:=[eB e.1,eB e.2]
def eT (es:aa Ed):aa UInt8:=vB es.length++es.flatMap e2
theorem sF:∀es:aa Ed,(es.flatMap e2).length=2*es.length
 | []=>rfl
 | e::es=>by rw [FX,bq,sF es];simp [e2];omega
theorem JM {es:aa Ed} (h:es.length<=66):(eT es).length<=200:=by
 have:=eO (v:=es.length) (by omega);rw [eT,bq,sF];omega
theorem BI {α:Type} (f:α->aa UInt8):∀(l:aa α) (s:aa UInt8),l.foldl (fun s e=>s++f e) s=s++l.flatMap f
 | [],s=>by simp
 | e::l,s=>by rw [iR,BI f l,FX,fJ]
theorem Q7 (es:aa Ed) (he:es.length<=66):yz es=some (BA (eT es),()):=by
 have hm:maxLen=9223372036854775807:=by decide
 show Fa BIG _=_;have hv:aS (es.length:Int) 0 1000000000=true:=aH.2 (by omega);have h5:=eO (v:=es.length) (by omega);rw [ajd,nS,hv,if_pos rfl,af,eH];simp only;rw [aa1 es (by omega) (fun (s:aa UInt8) i=>(BA s,i)) (fun i s=>s.length<=5+2*i) (fun s e=>s++e2 e) BA (s0:=vB es.length) (by simpa using h5) (fun i s y _ h=>by simp [e2];omega),BI]
 ·rfl
 ·intro self s i y hy hs;have hi:=(bn hy).1;simp only [show ((i:Int)<(es.length:Int)) from by omega,decide_true,au];rw [aJ hi,hy,af,dK (by omega),aGa,iX,bE,bE,ak (by simp;omega)];rfl
 ·intro self s _;simp
theorem Ve (es:aa Ed) (he:es.length<=66):AJ es=some (BA (eT es),()):=by
 have hm:maxLen=9223372036854775807:=by decide
 show Ir BIG _=_;have h5:=eO (v:=es.length) (by omega);rw [alx,kv _ (by omega),af];simp only;rw [aa1 es (by omega) (fun (s:aa UInt8) i=>(BA s,i)) (fun i s=>s.length<=5+2*i) (fun s e=>s++e2 e) BA (s0:=vB es.length) (by simpa using h5) (fun i s y _ h=>by simp [e2];omega),BI]
 ·rfl
 ·intro self s i y hy hs;have hi:=(bn hy).1;simp only [show ((i:Int)<(es.length:Int)) from by omega,decide_true,au];rw [aJ hi,hy,af,dK (by omega),DJ,af,iX,bE,bE,ak (by simp;omega),au,aJ hi,hy,af,DJ,af,iX,bE,bE,ak (by simp;omega),au,fJ];rfl
 ·intro self s _;simp
def oT (o:qw):aa UInt8:=((vB o.1.toNat++[eB o.2.1])++vB o.2.2.2.toNat)++eT o.2.2.1
theorem Ag {n:Int} {o:qw} (h:jQ n o=true):1<=n/\n<=12/\1<=o.1/\o.1<=100000/\1<=o.2.1/\o.2.1<=4/\0<=o.2.2.2/\o.2.2.2<=12/\mM n o.2.2.1=true:=by
 unfold jQ at h;simp only [aM] at h;obtain ⟨hn,h1,h2,h3,h4⟩:=h;have hn:=aH.1 hn;have h1:=aH.1 h1;have h2:=aH.1 h2;have hv:0<=o.2.2.2/\o.2.2.2<=12:=by
  split at h4
  ·simp only [aM] at h4;have:=aH.1 h4.2;omega
  ·split at h4<;>simp only [aM,decide_eq_true_eq] at h4<;>omega
 exact ⟨hn.1,hn.2,h1.1,h1.2,h2.1,h2.2,hv.1,hv.2,h3⟩
theorem Q8 {n:Int} {o:qw} (h:jQ n o=true):(oT o).length<=300:=by
 obtain ⟨a1,a2,a3,a4,a5,a6,a7,a8,a9⟩:=Ag h;have h1:=eO (v:=o.1.toNat) (by omega);have h2:=eO (v:=o.2.2.2.toNat) (by omega);have h3:=JM (g_ a9);simp only [oT,bq,bA,bB];omega
theorem ajo (n:Int) (o:qw) (hl:o.2.2.1.length<=1048576):Fg (n,o)=some (if jQ n o then (BA (oT o),true) else (BA [],false),()):=by
 show Ff BIG _=_;rw [ajh,aaX n o hl,af];cases h:jQ n o with
 | false=>rfl
 | true=>
  obtain ⟨a1,a2,a3,a4,a5,a6,a7,a8,a9⟩:=Ag h;have h1:=eO (v:=o.1.toNat) (by omega);have h2:=eO (v:=o.2.2.2.toNat) (by omega);have h3:=JM (g_ a9);simp only [bK,az,if_true,nS,af];rw [show aS o.1 0 1000000000=true from aH.2 (by omega),show aS o.2.2.2 0 1000000000=true from aH.2 (by omega),if_pos rfl,if_pos rfl,Ml,Q7 _ (g_ a9)];simp only [iX,bE,af];rw [ak (by simp;omega),au,ak (by simp;omega),au,ak (by simp;omega),au];rfl
theorem ajp (n:Int) (o:qw) (hl:o.2.2.1.length<=1048576):EY (n,o)=some (if jQ n o then (BA (oT o),true) else (BA [],false),()):=by
 show EX BIG _=_;rw [aiG,Mk n o hl,af];cases h:jQ n o with
 | false=>rfl
 | true=>
  obtain ⟨a1,a2,a3,a4,a5,a6,a7,a8,a9⟩:=Ag h;have h1:=eO (v:=o.1.toNat) (by omega);have h2:=eO (v:=o.2.2.2.toNat) (by omega);have h3:=JM (g_ a9);have k1:=kv o.1.toNat (by omega);have k2:=kv o.2.2.2.toNat (by omega);rw [gV (by omega)] at k1 k2;simp only [bK,az,if_true,k1,k2,DJ,Ve _ (g_ a9),iX,bE,af];rw [ak (by simp;omega),au,ak (by simp;omega),au,ak (by simp;omega),au];rfl
def aT (a:An):aa UInt8:=((vB a.1.toNat++JL a.2.1)++eT a.2.2.1)++a.2.2.2.map eB
theorem wO {n:Int} {a:An} (h:je n a=true):1<=n/\n<=12/\1<=a.1/\a.1<=100000/\mM n a.2.2.1=true/\(a.2.2.2.length:Int)=n/\vW n a.2.2.2=true:=by
 unfold je at h;simp only [aM,aH] at h;obtain ⟨hn,h1,h2,h3⟩:=h;have h3':=h3;unfold vW at h3;split at h3
 ·rename_i hl;exact ⟨hn.1,hn.2,h1.1,h1.2,h2,hl,h3'⟩
 ·cases h3
theorem Q9 {n:Int} {a:An} (h:je n a=true):(aT a).length<=300:=by
 obtain ⟨a1,a2,a3,a4,a5,a6,_⟩:=wO h;have h1:=eO (v:=a.1.toNat) (by omega);have h3:=JM (g_ a5);simp only [aT,JL,bq,bA,bB,fE];omega
theorem ajq (l:aa Int):l.flatMap (fun y=>[eB y])=l.map eB:=by
 induction l with
 | nil=>rfl
 | cons y l ih=>rw [FX,ih];rfl
theorem agj (n:Int) (a:An) (hl:a.2.2.1.length<=1048576) (Od:a.2.2.2.length<=1048576):Cm (n,a)=some (if je n a then (BA (aT a),true) else (BA [],false),()):=by
 have hm:maxLen=9223372036854775807:=by decide
 show Ck BIG _=_;rw [agd,U_ n a hl Od,af];cases h:je n a with
 | false=>rfl
 | true=>
  obtain ⟨a1,a2,a3,a4,a5,a6,_⟩:=wO h;have h1:=eO (v:=a.1.toNat) (by omega);have h3:=JM (g_ a5);have hf:(bif a.2.1 then some (ByteArray.mk #[1]) else some (ByteArray.mk #[0]):ah ByteArray)=some (BA (JL a.2.1)):=by cases a.2.1<;>rfl
  simp only [bK,az,if_true,nS,af];rw [show aS a.1 0 1000000000=true from aH.2 (by omega),if_pos rfl,hf,af,Q7 _ (g_ a5)];simp only [iX,bE,af];rw [ak (by simp [JL];omega),au,ak (by simp [JL];omega),au,
   aa1 a.2.2.2 (by omega) (fun (s:aa UInt8) i=>(BA s,i)) (fun i s=>s.length<=300+i) (fun s y=>s++[eB y]) BA (by simp [JL];omega) (fun i s y _ h=>by simp;omega),BI (fun y=>[eB y]),ajq]
  ·rfl
  ·intro self s i y hy hs;have hi:=(bn hy).1;simp only [show ((i:Int)<(a.2.2.2.length:Int)) from by omega,decide_true,au];rw [aJ hi,hy,af,dK (by omega),Ml,iX,bE,bE,ak (by simp;omega)];rfl
  ·intro self s _;simp
theorem agk (n:Int) (a:An) (hl:a.2.2.1.length<=1048576) (Od:a.2.2.2.length<=1048576):Ce (n,a)=some (if je n a then (BA (aT a),true) else (BA [],false),()):=by
 have hm:maxLen=9223372036854775807:=by decide
 show Cc BIG _=_;rw [af1,II n a hl Od,af];cases h:je n a with
 | false=>rfl
 | true=>
  obtain ⟨a1,a2,a3,a4,a5,a6,_⟩:=wO h;have h1:=eO (v:=a.1.toNat) (by omega);have h3:=JM (g_ a5);have k1:=kv a.1.toNat (by omega);rw [gV (by omega)] at k1;simp only [bK,az,if_true,k1,aq8,Ve _ (g_ a5),iX,bE,af];rw [ak (by simp [JL];omega),au,ak (by simp [JL];omega),au,
   aa1 a.2.2.2 (by omega) (fun (s:aa UInt8) i=>(BA s,i)) (fun i s=>s.length<=300+i) (fun s y=>s++[eB y]) BA (by simp [JL];omega) (fun i s y _ h=>by simp;omega),BI (fun y=>[eB y]),ajq]
  ·rfl
  ·intro self s i y hy hs;have hi:=(bn hy).1;simp only [show ((i:Int)<n) from by omega,decide_true,au];rw [aJ hi,hy,af,dK (by omega),DJ,af,iX,bE,bE,ak (by simp;omega)];rfl
  ·intro self s _;simp [a6]
def dec:Nat->aa UInt8->ah (Nat × Nat)
 | 0,_=>none
 | _+1,[]=>none
 | k+1,b::l=>if b.toNat<128 then some (b.toNat,1) else (dec k l).map fun r=>(b.toNat-128+128*r.1,r.2+1)
theorem Fp:∀{k:Nat} {l:aa UInt8} {v m:Nat},dec k l=some (v,m)->1<=m/\m<=k/\m<=l.length/\v<128 ^ m
 | 0,_,_,_,h=>by simp [dec] at h
 | _+1,[],_,_,h=>by simp [dec] at h
 | k+1,b::l,v,m,h=>by
  unfold dec at h;split at h
  ·cases h;simp;omega
  ·simp only [cO] at h;obtain ⟨⟨v',m'⟩,h1,h2⟩:=h;cases h2;obtain ⟨a1,a2,a3,a4⟩:=Fp h1;have:=b.toNat_lt;refine ⟨by omega,by omega,by simp;omega,?_⟩;rw [A8];simp only;omega
theorem ajr:∀{k:Nat} {l:aa UInt8} {m:Nat},dec k l=some (0,m)->l[m-1]?=some 0
 | 0,_,_,h=>by simp [dec] at h
 | _+1,[],_,h=>by simp [dec] at h
 | k+1,b::l,m,h=>by
  unfold dec at h;split at h
  ·simp only [aK,bU] at h;obtain ⟨h1,rfl⟩:=h;simp only [A9,FR,aK];exact UInt8.toNat_inj.1 h1
  ·simp only [cO] at h;obtain ⟨⟨v',m'⟩,h1,h2⟩:=h;simp only [bU] at h2;obtain ⟨h2,rfl⟩:=h2;have hv:v'=0:=by omega
   subst hv;have h3:=ajr h1;have h4:=(Fp h1).1;rw [show m'+1-1=(m'-1)+1 from by omega,FU];exact h3
theorem aAq {k:Nat} {l:aa UInt8} {v:Nat} (h:dec k l=some (v,1)):∃b,l[0]?=some b/\b.toNat=v:=by
 cases k with
 | zero=>simp [dec] at h
 | succ k=>
  cases l with
  | nil=>simp [dec] at h
  | cons b l=>
   unfold dec at h;split at h
   ·cases h;exact ⟨b,rfl,rfl⟩
   ·simp only [cO] at h;obtain ⟨⟨v',m'⟩,h1,h2⟩:=h;simp only [bU] at h2;have:=(Fp h1).1;omega
theorem ajs:∀{k:Nat} {l:aa UInt8} {v m:Nat},k<=5->dec k l=some (v,m)->(vB v=l.take m↔(m=1\/l[m-1]?≠some 0))
 | 0,_,_,_,_,h=>by simp [dec] at h
 | _+1,[],_,_,_,h=>by simp [dec] at h
 | k+1,b::l,v,m,hk,h=>by
  have bF:=Fp h;unfold dec at h;split at h
  ·cases h;rename_i hb;rw [SI (by omega),ajn];simp
  ·rename_i hb;simp only [cO] at h;obtain ⟨⟨v',m'⟩,h1,h2⟩:=h;simp only [bU] at h2;obtain ⟨rfl,rfl⟩:=h2;have di:=b.toNat_lt;obtain ⟨a1,a2,a3,a4⟩:=Fp h1;have bZ:v'<34359738368:=mU a4 (Nat.pow_le_pow_right (by omega) (show m'<=5 by omega));have ih:=ajs (show k<=5 by omega) h1;have aGZ:b.toNat-128+128*v'<34359738368:=mU bF.2.2.2 (Nat.pow_le_pow_right (by omega) (show m'+1<=5 by omega));have e1:(b::l)[m'+1-1]?=l[m'-1]?:=by rw [show m'+1-1=(m'-1)+1 from by omega,FU]
   rw [e1,CU];by_cases hs:b.toNat-128+128*v'<=127
   ·have hv:v'=0:=by omega
    subst hv;have h0:=ajr h1;rw [SI hs,h0];constructor
    ·intro h;have:=congrArg List.length h;rw [bA,bB,bA,eU] at this;omega
    ·rintro (h|h)
     ·omega
     ·exact absurd rfl h
   ·rw [aq7 (by omega) aGZ];have q1:(b.toNat-128+128*v') % 128+128=b.toNat:=by omega
    have q2:(b.toNat-128+128*v') / 128=v':=by omega
    rw [q1,q2,ajn,J_];simp only [true_and,ih];constructor
    ·rintro (h|h)
     ·subst h;obtain ⟨c,hc1,hc2⟩:=aAq h1;right;simp only [A9,hc1,ne_eq,aK];rintro rfl;have:v'=0:=by rw [<-hc2];rfl
      omega
     ·exact .inr h
    ·rintro (h|h)
     ·omega
     ·exact .inr h
def zb (l:aa UInt8):ah (Nat × Nat):=match dec 5 l with
 | some (v,m)=>if v<=1000000000/\vB v=l.take m then some (v,m) else none
 | none=>none
theorem Fq {l:aa UInt8} {v m:Nat} (h:zb l=some (v,m)):v<=1000000000/\vB v=l.take m/\1<=m/\m<=5/\m<=l.length:=by
 unfold zb at h;split at h
 ·rename_i v' m' hd;split at h
  ·rename_i hc;cases h;obtain ⟨a1,a2,a3,a4⟩:=Fp hd;exact ⟨hc.1,hc.2,a1,a2,a3⟩
  ·cases h
 ·cases h
theorem aCe (T:aa UInt8) (a:Nat) {B:Type} {F:(Int × Int × Int->ah B)->Int × Int × Int->ah B} (z:B) (fin:Nat->Nat->B)
  (hF:∀self (acc u i:Nat) b,T[i]?=some b->a<=i->i<a+5->acc<268435456->u<=268435456->F self ((acc:Int),(u:Int),(i:Int))=if b.toNat<128 then some (fin (acc+b.toNat*u) i) else self (((acc+(b.toNat-128)*u:Nat):Int),((u*128:Nat):Int),((i+1:Nat):Int)))
  (hE:∀self (acc u i:Nat),(T[i]?=none\/i=a+5)->a<=i->F self ((acc:Int),(u:Int),(i:Int))=some z) :
  aU BIG F (0,1,(a:Int))=some (match dec 5 (T.drop a) with|some (v,m)=>fin v (a+m-1)|none=>z):=by
 have key:∀(k n j acc:Nat),j+k=5->k<n->acc<128 ^ j->it F n ((acc:Int),((128 ^ j:Nat):Int),((a+j:Nat):Int))=some (match dec k (T.drop (a+j)) with|some (v,m)=>fin (acc+128 ^ j*v) (a+j+m-1)|none=>z):=by
  intro k;induction k with
  | zero=>
   intro n j acc hj hn ha;obtain ⟨m,rfl⟩:∃m,n=m+1:=⟨n-1,by omega⟩
   show F (it F m) _=_;rw [hE _ _ _ _ (.inr (by omega)) (by omega)];rfl
  | succ k ih=>
   intro n j acc hj hn ha;obtain ⟨m,rfl⟩:∃m,n=m+1:=⟨n-1,by omega⟩
   show F (it F m) _=_;have hp:128 ^ j<=268435456:=Nat.pow_le_pow_right (by omega) (show j<=4 by omega);cases hb:T[a+j]? with
   | none=>
    rw [hE _ _ _ _ (.inl hb) (by omega)];have:T.drop (a+j)=[]:=List.drop_eq_nil_iff.2 (by simpa using hb);rw [this];rfl
   | some b=>
    have hi:=(bn hb).1;have N7:=b.toNat_lt;have hd:T.drop (a+j)=b::T.drop (a+(j+1)):=by
     rw [BX hi];congr 1;exact (bn hb).2
    rw [hF _ _ _ _ b hb (by omega) (by omega) (by omega) hp,hd];unfold dec;split
    ·simp only [Nat.add_sub_cancel];rw [Nat.mul_comm]
    ·have:=ih m (j+1) (acc+(b.toNat-128)*128 ^ j) (by omega) (by omega) (by
      rw [A8]
      have:(b.toNat-128)*128 ^ j<=127*128 ^ j:=jg _ (by omega)
      omega)
     rw [A8] at this;rw [show a+j+1=a+(j+1) from by omega,this];cases dec k (T.drop (a+(j+1))) with
     | none=>rfl
     | some r=>
      obtain ⟨v,m⟩:=r;simp only [dx];congr 2
      ·rw [Nat.mul_add,Nat.mul_comm (128 ^ j) (b.toNat-128),Nat.mul_assoc];omega
      ·omega
 have:=key 5 BIG 0 0 (by omega) (by decide) (by simp);show it F BIG _=_;simpa using this
def rvR (T:aa UInt8) (a:Int):Int × Int × Bool:=
 if aS a 0 (T.length:Int) then (match zb (T.drop a.toNat) with|some (v,m)=>((v:Int),a+(m:Int),true)|none=>(0,0,false)) else (0,0,false)
theorem Mm (T:aa UInt8) (a:Int) (hl:T.length<=2097152):yl (BA T,a)=some (rvR T a,()):=by
 show LK BIG _=_;rw [aqx,nR,af,bE];unfold rvR;cases ha:aS a 0 (T.length:Int) with
 | false=>rfl
 | true=>
  rw [aH] at ha;obtain ⟨a,rfl⟩:∃b:Nat,a=b:=⟨a.toNat,by omega⟩
  simp only [bK,az,if_true,eH];rw [aCe T a (z:=.inl ()) (fun v i=>if (T[i]?=some 0/\a<i)\/1000000000<v then .inl () else .inr ((v:Int),(i:Int)+1,true))]
  ·unfold zb;cases hd:dec 5 (T.drop a) with
   | none=>rfl
   | some r=>
    obtain ⟨v,m⟩:=r;have hf:=ajs (by omega) hd;obtain ⟨a1,a2,a3,a4⟩:=Fp hd;rw [oF,show a+(m-1)=a+m-1 from by omega] at hf;simp only;by_cases hc:(T[a+m-1]?=some 0/\a<a+m-1)\/1000000000<v
    ·rw [if_pos hc,if_neg]
     ·rfl
     ·rintro ⟨h1,h2⟩;have:=hf.1 h2;rcases hc with ⟨hc1,hc2⟩|hc
      ·rcases this with h|h
       ·omega
       ·exact h hc1
      ·omega
    ·rw [if_neg hc,if_pos]
     ·rw [show ((a+m-1:Nat):Int)+1=(a:Int)+(m:Int) from by omega];rfl
     ·refine ⟨Nat.le_of_not_lt fun h=>hc (.inr h),hf.2 ?_⟩;by_cases hm:m=1
      ·exact .inl hm
      ·exact .inr fun h=>hc (.inl ⟨h,by omega⟩)
  ·intro self acc u i b hb hai hia aJe hu;have hi:=(bn hb).1;have N7:=b.toNat_lt;have hbu:b.toNat*u<=255*268435456:=Nat.mul_le_mul (by omega) hu;have hml:maxLen=9223372036854775807:=by decide
   simp only [show ((i:Int)<(T.length:Int)) from by omega,decide_true,au,af];rw [wr (n:=(a:Int)+5) (by omega) (by omega),ak (show (i:Int)<(a:Int)+5 from by omega),au,aJ hi,aa2,hb,af];rw [show decide ((128:Int)=0)=false from rfl,az,wr (n:=(b.toNat:Int)) (by omega) (by omega)];rw [abO (by omega)];by_cases h:b.toNat<128
   ·have e1:(b.toNat:Int) % 128=(b.toNat:Int):=by omega
    have e2:(b.toNat:Int)*(u:Int)=((b.toNat*u:Nat):Int):=by simp
    rw [ak (by omega),au,if_pos h,e1,e2,aa3 (by omega),show ((acc:Int)+((b.toNat*u:Nat):Int))=((acc+b.toNat*u:Nat):Int) from by omega,aa3 (by omega),dK (by omega)];have hz:some b=some 0↔b.toNat=0:=by
     rw [aK];constructor
     ·rintro rfl;rfl
     ·intro h;exact UInt8.toNat_inj.1 h
    by_cases c1:b.toNat=0
    ·rw [ak (by omega),au];by_cases c2:a<i
     ·rw [ak (by omega)];simp only [au,af];rw [if_pos (.inl ⟨hz.2 c1,c2⟩)]
     ·rw [aD (by omega)];simp only [az,af];by_cases c3:1000000000<acc+b.toNat*u
      ·rw [ak (by omega),if_pos (.inr c3)];rfl
      ·rw [aD (by omega),if_neg (by rintro (h|h)<;>omega)];rfl
    ·rw [aD (by omega)];simp only [az,af];by_cases c3:1000000000<acc+b.toNat*u
     ·rw [ak (by omega),if_pos (.inr c3)];rfl
     ·rw [aD (by omega),if_neg (by
       rintro (⟨h,_⟩|h)
       ·exact c1 (hz.1 h)
       ·omega)];rfl
   ·have e1:(b.toNat:Int) % 128=((b.toNat-128:Nat):Int):=by omega
    have e2:((b.toNat-128:Nat):Int)*(u:Int)=(((b.toNat-128)*u:Nat):Int):=by simp
    have uW:(b.toNat-128)*u<=b.toNat*u:=jg _ (by omega);rw [aD (by omega),az,if_neg h,e1,e2,aa3 (by omega),show ((acc:Int)+(((b.toNat-128)*u:Nat):Int))=((acc+(b.toNat-128)*u:Nat):Int) from by omega,aa3 (by omega),dK (by omega),show (u:Int)*128=((u*128:Nat):Int) from by simp,aa3 (by omega)]
  ·intro self acc u i hi hai;simp only;by_cases c:(i:Int)<(T.length:Int)
   ·rcases hi with hi|hi
    ·rw [List.getElem?_eq_none_iff] at hi;omega
    ·rw [ak c,au,wr (n:=(a:Int)+5) (by omega) (by omega),aD (by omega)];rfl
   ·rw [aD c];rfl
abbrev St:=Nat × Bool
def nm (T:aa UInt8) (s:St):Int × St:=
 if s.2 then (0,(s.1,true)) else match zb (T.drop s.1) with
 | some (v,m)=>((v:Int),(s.1+m,false))
 | none=>(0,(s.1,true))
def on (T:aa UInt8) (s:St):Int × St:=
 if s.2 then (0,(s.1,true)) else match T[s.1]? with
 | some b=>((b.toNat:Int),(s.1+1,false))
 | none=>(0,(s.1,true))
theorem nT {T:aa UInt8} {s:St} (h:s.1<=T.length):(nm T s).2.1<=T.length:=by
 unfold nm;split
 ·exact h
 ·split
  ·rename_i v m hd;have:=(Fq hd).2.2.2.2;rw [kX] at this;simp only;omega
  ·exact h
theorem yD {T:aa UInt8} {s:St} (h:s.1<=T.length):(on T s).2.1<=T.length:=by
 unfold on;split
 ·exact h
 ·split
  ·rename_i b hb;exact (bn hb).1
  ·exact h
theorem lU {T:aa UInt8} {s:St} (h:(nm T s).2.2=false):s.2=false:=by
 unfold nm at h;split at h
 ·simp at h
 ·rename_i hs;simpa using hs
theorem JN {T:aa UInt8} {s:St} (h:(on T s).2.2=false):s.2=false:=by
 unfold on at h;split at h
 ·simp at h
 ·rename_i hs;simpa using hs
theorem qJ {T:aa UInt8} {s:St} (hs:s.1<=T.length) (h:(nm T s).2.2=false):T.take (nm T s).2.1=T.take s.1++vB (nm T s).1.toNat/\0<=(nm T s).1/\(nm T s).1<=1000000000:=by
 have hb:=lU h;unfold nm at h ⊢;rw [if_neg (by simp [hb])] at h ⊢;split at h
 ·rename_i v m hd;have hi:=Fq hd;simp only [hd];refine ⟨?_,by omega,by omega⟩;rw [eH,hi.2.1,List.take_add]
 ·simp at h
theorem wP {T:aa UInt8} {s:St} (h:(on T s).2.2=false):T.take (on T s).2.1=T.take s.1++[eB (on T s).1]/\0<=(on T s).1/\(on T s).1<=255/\(on T s).2.1=s.1+1:=by
 have hb:=JN h;unfold on at h ⊢;rw [if_neg (by simp [hb])] at h ⊢;split at h
 ·rename_i b di;simp only [di];have:=b.toNat_lt;refine ⟨?_,by omega,by omega,trivial⟩;rw [ajn,List.take_add_one,di];rfl
 ·simp at h
theorem jC (T:aa UInt8) (s:St) (hs:s.1<=T.length) (hl:T.length<=2097152):eX (BA T,(s.1:Int),s.2)=some ((nm T s).1,(BA T,((nm T s).2.1:Int),(nm T s).2.2)):=by
 show Ch BIG _=_;rw [af8];dsimp only;rw [Mm T _ hl,af];unfold rvR nm;rw [show aS (s.1:Int) 0 (T.length:Int)=true from aH.2 (by omega),if_pos rfl,eH];cases s.2 with
 | true=>rfl
 | false=>
  cases zb (T.drop s.1) with
  | none=>rfl
  | some r=>rfl
theorem ny (T:aa UInt8) (s:St) (hs:s.1<=T.length) (hl:T.length<=2097152):fH (BA T,(s.1:Int),s.2)=some ((on T s).1,(BA T,((on T s).2.1:Int),(on T s).2.2)):=by
 show Cg BIG _=_;rw [af6];dsimp only;rw [bE];unfold on;cases hb:s.2 with
 | true=>rfl
 | false=>
  simp only [az,af,eQ,if_false];by_cases h:s.1<T.length
  ·rw [aD (by omega),az,wr (n:=(s.1:Int)+1) (by omega) (by omega),wr (by omega) (by omega),show (s.1:Int)+1-1=(s.1:Int) from by omega,aJ h,aa2,aZ h];have:=(T[s.1]).toNat_lt;simp only [af];rw [wr (by omega) (by omega)];rfl
  ·rw [ak (by omega),uY (by omega)];rfl
def rA (T:aa UInt8):Nat->St->aa Ed->St × aa Ed
 | 0,s,out=>(s,out)
 | k+1,s,out=>if s.2 then (s,out) else rA T k (on T (on T s).2).2 (out++[((on T s).1,(on T (on T s).2).1)])
theorem Fu (T:aa UInt8):∀(k:Nat) (s:St) (out:aa Ed),s.1<=T.length->(rA T k s out).1.1<=T.length/\((rA T k s out).1.2=false->s.2=false/\∃es,(rA T k s out).2=out++es/\es.length=k/\T.take (rA T k s out).1.1=T.take s.1++es.flatMap e2)
 | 0,s,out,h=>⟨h,fun hb=>⟨hb,[],by simp [rA]⟩⟩
 | k+1,s,out,h=>by
  unfold rA;cases hs:s.2 with
  | true=>exact ⟨h,fun hb=>by rw [if_pos rfl] at hb;rw [hs] at hb;cases hb⟩
  | false=>
   simp only [eQ,if_false];have h1:=yD h;have h2:=yD h1;obtain ⟨a1,a2⟩:=Fu T k (on T (on T s).2).2 (out++[((on T s).1,(on T (on T s).2).1)]) h2;refine ⟨a1,fun hb=>⟨trivial,?_⟩⟩;obtain ⟨b1,es,b2,b3,b4⟩:=a2 hb;have c1:=wP b1;have c2:=wP (JN b1);refine ⟨((on T s).1,(on T (on T s).2).1)::es,by rw [b2];simp,by simp [b3],?_⟩;rw [b4,c1.1,c2.1,FX];simp [e2]
theorem aux (T:aa UInt8) (hl:T.length<=2097152) {X:Type} {F:(X->ah ((ByteArray × Int × Bool) × aa Ed))->X->ah ((ByteArray × Int × Bool) × aa Ed)} (mk:St->aa Ed->Nat->X) (K:Nat)
  (hF:∀self (s:St) (out:aa Ed) (k:Nat),k+1<=K->s.1<=T.length->(s.2=false->out.length<=s.1)->F self (mk s out (k+1))=if s.2 then some ((BA T,(s.1:Int),s.2),out) else self (mk (on T (on T s).2).2 (out++[((on T s).1,(on T (on T s).2).1)]) k))
  (hE:∀self (s:St) (out:aa Ed),F self (mk s out 0)=some ((BA T,(s.1:Int),s.2),out)) :
  ∀(k n:Nat) (s:St) (out:aa Ed),k<=K->k<n->s.1<=T.length->(s.2=false->out.length<=s.1)->it F n (mk s out k)=some ((BA T,((rA T k s out).1.1:Int),(rA T k s out).1.2),(rA T k s out).2)
 | 0,n,s,out,hk,hn,hs,ho=>by
  obtain ⟨m,rfl⟩:∃m,n=m+1:=⟨n-1,by omega⟩
  exact hE _ _ _
 | k+1,n,s,out,hk,hn,hs,ho=>by
  obtain ⟨m,rfl⟩:∃m,n=m+1:=⟨n-1,by omega⟩
  show F (it F m) _=_;rw [hF _ _ _ _ hk hs ho];unfold rA;cases hb:s.2 with
  | true=>simp [hb]
  | false=>
   simp only [eQ,if_false];refine aux T hl mk K hF hE k m _ _ (by omega) (by omega) (yD (yD hs)) (fun h => ?_);have h1:=(wP h).2.2.2;have h2:=(wP (JN h)).2.2.2;have:=ho hb;simp;omega
theorem ayC (T:aa UInt8) (s:St):0<=(nm T s).1/\(nm T s).1<=1000000000:=by
 unfold nm;split
 ·simp
 ·split
  ·rename_i v m hd;have:=(Fq hd).1;simp only;omega
  ·simp
theorem GZ (T : aa UInt8) (s : St) (hs : s.1 ≤ T.length) (hl : T.length ≤ 2097152) : lu (BA T, (s.1 : Int), s.2) =
    some ((rA T (nm T s).1.toNat (nm T s).2 []).2, (BA T, ((rA T (nm T s).1.toNat (nm T s).2 []).1.1 : Int), (rA T (nm T s).1.toNat (nm T s).2 []).1.2)) := by
  show yn BIG _ = _;rw [aao, jC T s hs hl, af];have hnn := ayC T s;obtain ⟨k, hk⟩ : ∃ k : Nat, (nm T s).1 = k := ⟨(nm T s).1.toNat, by omega⟩
  simp only;rw [hk, eH];have L := aux T hl (F := fun self2 x1 =>
    Option.bind (bif decide ((0 : Int) < x1.2.2) then
      some !x1.1.2.2
     else some false : ah (Bool)) fun x3 =>
    bif x3 then
     Option.bind (fH x1.1) fun r4 =>
     Option.bind (fH r4.2) fun r5 =>
     bif decide (x1.2.1.length + ([(r4.1, r5.1)]).length ≤ 4294967296) then
      self2 (r5.2, x1.2.1 ++ ([(r4.1, r5.1)]), IntKind.wrap .i64 (x1.2.2 - (1 : Int)))
     else none
    else some (x1.1, x1.2.1)) (fun s out k => ((BA T, (s.1 : Int), s.2), out, (k : Int))) 1000000000 (by
    intro self s out k hk hs ho
    simp only [show (0 : Int) < ((k + 1 : Nat) : Int) from by omega, decide_true, au, af]
    cases hb : s.2 with
    | true => rfl
    | false =>
      have := ho hb
      simp only [mF, au, eQ, if_false]
      rw [← hb, ny T s hs hl, af, ny T _ (yD hs) hl, af, ak (by simp; omega), au, wr (by omega) (by omega), show ((k + 1 : Nat) : Int) - 1 = (k : Int) from by omega]) (by
    intro self s out
    simp) k BIG (nm T s).2 [] (by omega) (by simp [BIG]; omega) (nT hs) (by simp)
  unfold aU;rw [L];rfl
theorem anI {T:aa UInt8} {s:St} {K:Nat} (hs:s.1<=T.length) (hK:K=(nm T s).1.toNat) (h:(rA T K (nm T s).2 []).1.2=false) :
  (nm T s).2.2=false/\(rA T K (nm T s).2 []).2.length=K/\T.take (rA T K (nm T s).2 []).1.1=T.take s.1++eT (rA T K (nm T s).2 []).2:=by
 obtain ⟨h1,h2⟩:=Fu T K (nm T s).2 [] (nT hs);obtain ⟨b1,es,b2,b3,b4⟩:=h2 h;have c:=qJ hs b1;rw [dN] at b2;refine ⟨b1,by rw [b2];exact b3,?_⟩;rw [b4,c.1,<-hK,fJ,b2];unfold eT;rw [b3]
theorem Q_ {T:aa UInt8} {p:Nat} (hp:p<=T.length):T.take p=T↔p=T.length:=by
 constructor
 ·intro h;have:=congrArg List.length h;rw [eU] at this;omega
 ·rintro rfl;exact u7
def q0 (T:aa UInt8):Int × St:=nm T (0,false)
def q1 (T:aa UInt8):Int × St:=on T (q0 T).2
def q2 (T:aa UInt8):Int × St:=nm T (q1 T).2
def q3 (T:aa UInt8) (K:Nat):St × aa Ed:=rA T K (nm T (q2 T).2).2 []
def oQ (T:aa UInt8) (K:Nat):qw:=((q0 T).1,(q1 T).1,(q3 T K).2,(q2 T).1)
theorem aq9 (T:aa UInt8):(q0 T).2.1<=T.length/\(q1 T).2.1<=T.length/\(q2 T).2.1<=T.length:=
 have h0:=nT (T:=T) (s:=(0,false)) (lN _)
 ⟨h0,yD h0,nT (yD h0)⟩
theorem anJ {T:aa UInt8} {K:Nat} (hK:K=(nm T (q2 T).2).1.toNat) (h:(q3 T K).1.2=false):(q3 T K).2.length=K/\T.take (q3 T K).1.1=oT (oQ T K)/\(q3 T K).1.1<=T.length:=by
 obtain ⟨l0,l1,l2⟩:=aq9 T;obtain ⟨a1,a2,a3⟩:=anI l2 hK h;have a4:=lU a1;have b2:=qJ l1 a4;have a5:=lU a4;have b1:=wP a5;have a6:=JN a5;have b0:=qJ (lN _) a6;refine ⟨a2,?_,(Fu T K (nm T (q2 T).2).2 [] (nT l2)).1⟩;have e0:T.take (q0 T).2.1=vB (q0 T).1.toNat:=by have:=b0.1;simp only [A7,dN] at this;exact this
 have e1:T.take (q1 T).2.1=vB (q0 T).1.toNat++[eB (q1 T).1]:=by rw [<-e0];exact b1.1
 have e2:T.take (q2 T).2.1=(vB (q0 T).1.toNat++[eB (q1 T).1])++vB (q2 T).1.toNat:=by rw [<-e1];exact b2.1
 show T.take (q3 T K).1.1=((vB (q0 T).1.toNat++[eB (q1 T).1])++vB (q2 T).1.toNat)++eT (q3 T K).2;rw [<-e2];exact a3
def uj (n:Int) (T:aa UInt8):ah qw:=
 let K:=(nm T (q2 T).2).1.toNat
 if (q3 T K).1.2=false/\(q3 T K).1.1=T.length/\jQ n (oQ T K)=true then some (oQ T K) else none
theorem WF {n:Int} {T:aa UInt8} {o:qw} (h:uj n T=some o):jQ n o=true/\oT o=T:=by
 unfold uj at h;simp only at h;split at h
 ·rename_i hc;cases h;have:=anJ rfl hc.1;refine ⟨hc.2.2,?_⟩;rw [<-this.2.1,hc.2.1,u7]
 ·cases h
def uQ:ah qw->Int × Int × aa Ed × Int × Bool
 | some o=>(o.1,o.2.1,o.2.2.1,o.2.2.2,true)
 | none=>(0,0,[],0,false)
theorem ajt (n:Int) (T:aa UInt8) (hl:T.length<=1048576):E_ (n,BA T)=some (uQ (uj n T),()):=by
 obtain ⟨l0,l1,l2⟩:=aq9 T;show E9 BIG _=_;have r0:eX (BA T,(0:Int),false)=some ((q0 T).1,(BA T,((q0 T).2.1:Int),(q0 T).2.2)):=jC T (0,false) (lN _) (by omega);have r1:fH (BA T,((q0 T).2.1:Int),(q0 T).2.2)=some ((q1 T).1,(BA T,((q1 T).2.1:Int),(q1 T).2.2)):=ny T (q0 T).2 l0 (by omega);have r2:eX (BA T,((q1 T).2.1:Int),(q1 T).2.2)=some ((q2 T).1,(BA T,((q2 T).2.1:Int),(q2 T).2.2)):=jC T (q1 T).2 l1 (by omega);have r3:lu (BA T,((q2 T).2.1:Int),(q2 T).2.2)=some ((q3 T (nm T (q2 T).2).1.toNat).2,(BA T,((q3 T (nm T (q2 T).2).1.toNat).1.1:Int),(q3 T (nm T (q2 T).2).1.toNat).1.2)):=GZ T (q2 T).2 l2 (by omega);rw [aja,r0,af];simp only [r1,r2,r3,af];unfold uj;simp only;generalize hK:(nm T (q2 T).2).1.toNat=K;have he:∀p b,jI (BA T,p,b)=some (!b&&decide (p=(T.length:Int)),(BA T,p,b)):=by
  intro p b;show oZ BIG _=_;rw [Ac];cases b<;>rfl
 rw [he];simp only [af];show (Option.bind (bif !(!(q3 T K).1.2&&decide (((q3 T K).1.1:Int)=(T.length:Int))) then some true else Option.bind (yx (n,oQ T K)) fun r5=>some !r5.1:ah Bool) fun x6=>
  bif x6 then some (((0:Int),(0:Int),[],(0:Int),false),()) else some (((q0 T).1,(q1 T).1,(q3 T K).2,(q2 T).1,true),()))=_
 cases hb:(q3 T K).1.2 with
 | true=>simp [uQ]
 | false=>
  by_cases hp:(q3 T K).1.1=T.length
  ·have hq:=anJ hK.symm hb;have bJ:(q3 T K).2.length<=1048576:=by
    have h1:=congrArg List.length hq.2.1;rw [eU] at h1;simp only [oT,eT,bq,sF] at h1;have:(oQ T K).2.2.1=(q3 T K).2:=rfl;rw [this] at h1;omega
   rw [aaX n (oQ T K) bJ];simp only [hp,decide_true,mF,p_,bK,az,af,true_and];cases hO:jQ n (oQ T K) with
   | false=>simp [uQ]
   | true=>simp [uQ,oQ]
  ·have:decide (((q3 T K).1.1:Int)=(T.length:Int))=false:=aD (by omega);simp [this,hp,uQ]
def BJ (T:aa UInt8):Nat->St->aa Int->St × aa Int
 | 0,s,out=>(s,out)
 | k+1,s,out=>BJ T k (on T s).2 (out++[(on T s).1])
theorem anK (T:aa UInt8):∀(k:Nat) (s:St) (out:aa Int),(BJ T k s out).2.length=out.length+k
 | 0,s,out=>rfl
 | k+1,s,out=>by
  show (BJ T k _ _).2.length=_;rw [anK T k];simp;omega
theorem auy (T:aa UInt8):∀(k:Nat) (s:St) (out:aa Int),s.1<=T.length->(BJ T k s out).1.1<=T.length
 | 0,s,out,h=>h
 | k+1,s,out,h=>auy T k _ _ (yD h)
theorem aju (T:aa UInt8):∀(k:Nat) (s:St) (out:aa Int),(BJ T k s out).1.2=false->s.2=false/\∃es,(BJ T k s out).2=out++es/\es.length=k/\T.take (BJ T k s out).1.1=T.take s.1++es.map eB
 | 0,s,out,h=>⟨h,[],by simp [BJ]⟩
 | k+1,s,out,h=>by
  obtain ⟨b1,es,b2,b3,b4⟩:=aju T k (on T s).2 (out++[(on T s).1]) h;have c1:=wP b1;refine ⟨JN b1,(on T s).1::es,?_,by simp [b3],?_⟩
  ·show (BJ T k _ _).2=_;rw [b2];simp
  ·show T.take (BJ T k (on T s).2 (out++[(on T s).1])).1.1=_;rw [b4,c1.1];simp
theorem ajv (T:aa UInt8) {α:Type}:∀(l:aa α) (s:St × aa Int),l.foldl (fun s _=>((on T s.1).2,s.2++[(on T s.1).1])) s=BJ T l.length s.1 s.2
 | [],s=>rfl
 | _::l,s=>by rw [iR,ajv T l];rfl
def q4 (T:aa UInt8) (K:Nat):St × aa Ed:=rA T K (nm T (q1 T).2).2 []
def q5 (T:aa UInt8) (K N:Nat):St × aa Int:=BJ T N (q4 T K).1 []
def aQ (T:aa UInt8) (K:Nat) (L:aa Int):An:=((q0 T).1,decide ((q1 T).1=1),(q4 T K).2,L)
theorem aEd {b:Int} (h0:0<=b) (h1:b<=1):JL (decide (b=1))=[eB b]:=by
 rcases (show b=0\/b=1 by omega) with rfl|rfl<;>rfl
theorem anL {T:aa UInt8} {K N:Nat} (hK:K=(nm T (q1 T).2).1.toNat) (h:(q5 T K N).1.2=false):(q4 T K).2.length=K/\(q5 T K N).2.length=N/\(0<=(q1 T).1/\(q1 T).1<=255) /\
  T.take (q5 T K N).1.1=((vB (q0 T).1.toNat++[eB (q1 T).1])++eT (q4 T K).2)++(q5 T K N).2.map eB/\(q5 T K N).1.1<=T.length:=by
 obtain ⟨l0,l1,l2⟩:=aq9 T;obtain ⟨a0,es,c2,c3,c4⟩:=aju T N (q4 T K).1 [] h;obtain ⟨a1,a2,a3⟩:=anI l1 hK a0;have a5:=lU a1;have b1:=wP a5;have a6:=JN a5;have b0:=qJ (lN _) a6;have e0:T.take (q0 T).2.1=vB (q0 T).1.toNat:=by have:=b0.1;simp only [A7,dN] at this;exact this
 have e1:T.take (q1 T).2.1=vB (q0 T).1.toNat++[eB (q1 T).1]:=by rw [<-e0];exact b1.1
 refine ⟨a2,?_,⟨b1.2.1,b1.2.2.1⟩,?_,auy T N _ _ (Fu T K (nm T (q1 T).2).2 [] (nT l1)).1⟩
 ·rw [show (q5 T K N).2.length=_ from anK T N _ _];simp
 ·rw [<-e1];have h5:(q5 T K N).2=es:=by rw [<-dN es];exact c2
  rw [h5];show T.take (BJ T N (q4 T K).1 []).1.1=_;rw [c4];congr 1
def uk (n:Int) (T:aa UInt8):ah An:=
 let K:=(nm T (q1 T).2).1.toNat
 if aS n 1 12=true/\(q5 T K n.toNat).1.2=false/\(q5 T K n.toNat).1.1=T.length/\(q1 T).1<=1/\je n (aQ T K (q5 T K n.toNat).2)=true then some (aQ T K (q5 T K n.toNat).2) else none
theorem WH {n:Int} {T:aa UInt8} {a:An} (h:uk n T=some a):je n a=true/\aT a=T:=by
 unfold uk at h;simp only at h;split at h
 ·rename_i hc;cases h;have:=anL rfl hc.2.1;refine ⟨hc.2.2.2.2,?_⟩;conv=>rhs;rw [<-u7 (l:=T),<-hc.2.2.1,this.2.2.2.1,<-aEd this.2.2.1.1 hc.2.2.2.1]
  rfl
 ·cases h
def ul:ah An->Int × Bool × aa Ed × aa Int × Bool
 | some a=>(a.1,a.2.1,a.2.2.1,a.2.2.2,true)
 | none=>(0,false,[],[],false)
theorem agl (n:Int) (T:aa UInt8) (hl:T.length<=1048576):Cj (n,BA T)=some (ul (uk n T),()):=by
 obtain ⟨l0,l1,l2⟩:=aq9 T;have hm:maxLen=9223372036854775807:=by decide
 show Ci BIG _=_;have r0:eX (BA T,(0:Int),false)=some ((q0 T).1,(BA T,((q0 T).2.1:Int),(q0 T).2.2)):=jC T (0,false) (lN _) (by omega);have r1:fH (BA T,((q0 T).2.1:Int),(q0 T).2.2)=some ((q1 T).1,(BA T,((q1 T).2.1:Int),(q1 T).2.2)):=ny T (q0 T).2 l0 (by omega);have r3:lu (BA T,((q1 T).2.1:Int),(q1 T).2.2)=some ((q4 T (nm T (q1 T).2).1.toNat).2,(BA T,((q4 T (nm T (q1 T).2).1.toNat).1.1:Int),(q4 T (nm T (q1 T).2).1.toNat).1.2)):=GZ T (q1 T).2 l1 (by omega);rw [aga,nR,af];unfold uk;cases hn:aS n 1 12 with
 | false=>rfl
 | true=>
  rw [aH] at hn;obtain ⟨N,rfl⟩:∃N:Nat,n=N:=⟨n.toNat,by omega⟩
  simp only [bK,az,r0,r1,r3,af,eH];generalize hK:(nm T (q1 T).2).1.toNat=K;have dD:(q4 T K).1.1<=T.length:=by
   have:=(Fu T K (nm T (q1 T).2).2 [] (nT l1)).1;exact this
  rw [aa1 (List.range N) (by simp;omega) (fun (s:St × aa Int) i=>((BA T,(s.1.1:Int),s.1.2),((q0 T).1,decide ((q1 T).1=1),(q4 T K).2,s.2),i)) (fun i s=>s.1.1<=T.length/\s.2.length=i)
   (fun s _=>((on T s.1).2,s.2++[(on T s.1).1])) (fun s=>((BA T,(s.1.1:Int),s.1.2),((q0 T).1,decide ((q1 T).1=1),(q4 T K).2,s.2))) (s0:=((q4 T K).1,[])) ⟨dD,rfl⟩ (fun i s y _ h=>⟨yD h.1,by simp [h.2]⟩)]
  ·rw [ajv,qU];have he:∀p b,jI (BA T,p,b)=some (!b&&decide (p=(T.length:Int)),(BA T,p,b)):=by
    intro p b;show oZ BIG _=_;rw [Ac];cases b<;>rfl
   simp only [af,he];show (Option.bind (bif decide ((1:Int)<(q1 T).1) then some true else bif !(!(q5 T K N).1.2&&decide (((q5 T K N).1.1:Int)=(T.length:Int))) then some true else Option.bind (uO ((N:Int),aQ T K (q5 T K N).2)) fun r9=>some !r9.1:ah Bool) fun x10=>
    bif x10 then some (((0:Int),false,[],[],false),()) else some (((q0 T).1,decide ((q1 T).1=1),(q4 T K).2,(q5 T K N).2,true),()))=_
   by_cases JX:(q1 T).1<=1
   ·rw [aD (by omega),az];cases hb:(q5 T K N).1.2 with
    | true=>simp [ul]
    | false=>
     by_cases hp:(q5 T K N).1.1=T.length
     ·have hq:=anL hK.symm hb;have bJ:(q4 T K).2.length<=1048576:=by
       have h1:=congrArg List.length hq.2.2.2.1;rw [eU] at h1;simp only [eT,bq,sF] at h1;omega
      rw [U_ (N:Int) (aQ T K (q5 T K N).2) bJ (show (q5 T K N).2.length<=1048576 by rw [hq.2.1];omega)];simp only [hp,decide_true,mF,p_,bK,az,af,true_and,JX];cases hO:je (N:Int) (aQ T K (q5 T K N).2) with
      | false=>simp [ul]
      | true=>simp only [and_self,if_true,bK,az];rfl
     ·have:decide (((q5 T K N).1.1:Int)=(T.length:Int))=false:=aD (by omega);simp [this,hp,ul]
   ·rw [ak (by omega)];simp [JX,ul]
  ·rintro self ⟨s,out⟩ i y hy ⟨h1,h2⟩;have hi:=(bn hy).1;rw [qU] at hi;simp only at h1 h2;simp only [show ((i:Int)<(N:Int)) from by omega,decide_true,au];rw [ny T s h1 (by omega),af,ak (by simp;omega),au,dK (by omega)]
  ·intro self s _;simp
theorem yE (a b:aa Ed) (ha:a.length<=maxLen):rq (a,b)=some (decide (a=b),()):=by
 show xU BIG _=_;rw [YB];by_cases hl:a.length=b.length
 ·rw [ak (by omega),bK,az,aun a b ha hl false]
  ·by_cases h:a=b<;>simp [h]
  ·intro self i x y hx hy;have hi:=(bn hx).1;simp only [show ((i:Int)<(a.length:Int)) from by omega,decide_true,au];rw [aJ hi,hx,af,aJ (by omega),hy,af,dK (by omega)];obtain ⟨x1,x2⟩:=x;obtain ⟨y1,y2⟩:=y;by_cases h1:x1=y1<;>by_cases h2:x2=y2<;>simp [h1,h2]
  ·intro self;simp
 ·rw [aD (by omega),mF,au,aD (fun h=>hl (by rw [h]))]
theorem JO (a b:aa Int) (ha:a.length<=maxLen):tK (a,b)=some (decide (a=b),()):=by
 show zW BIG _=_;rw [acx];by_cases hl:a.length=b.length
 ·rw [ak (by omega),bK,az,aun a b ha hl false]
  ·by_cases h:a=b<;>simp [h]
  ·intro self i x y hx hy;have hi:=(bn hx).1;simp only [show ((i:Int)<(a.length:Int)) from by omega,decide_true,au];rw [aJ hi,hx,af,aJ (by omega),hy,af,dK (by omega)];by_cases h1:x=y<;>simp [h1]
  ·intro self;simp
 ·rw [aD (by omega),mF,au,aD (fun h=>hl (by rw [h]))]
def ze (a:An):Bool:=decide (a.1=0)&&(!a.2.1&&(decide (a.2.2.1.length=0)&&decide (a.2.2.2.length=0)))
def yF (o:qw):Bool:=decide (o.1=0)&&(decide (o.2.1=0)&&(decide (o.2.2.1.length=0)&&decide (o.2.2.2=0)))
def CE (a b c d:Int):Bool:=decide (a=0)&&(decide (b=0)&&(decide (c=0)&&decide (d=0)))
theorem ajw {α:Type} (l:aa α):decide ((l.length:Int)=0)=decide (l.length=0):=decide_eq_decide.2 (by omega)
theorem alW (a:An):AL a=some (ze a,()):=by
 show IC BIG _=_;rw [alJ,ajw,ajw];unfold ze;cases decide (a.1=0)<;>cases a.2.1<;>cases decide (a.2.2.1.length=0)<;>rfl
theorem aq_ (o:qw):Dy o=some (yF o,()):=by
 show L6 BIG _=_;rw [aqK,ajw];unfold yF;cases decide (o.1=0)<;>cases decide (o.2.1=0)<;>cases decide (o.2.2.1.length=0)<;>rfl
theorem SL {α:Type} [DecidableEq α] (l:aa α):decide (l=[])=decide (l.length=0):=decide_eq_decide.2 nz.symm
theorem Vf (a:An) (h1:a.2.2.1.length<=maxLen) (h2:a.2.2.2.length<=maxLen):uM a=some (ze a,()):=by
 show Ij BIG _=_;rw [alf];have:vS (a,((0:Int),false,[],[]))=vR BIG (a,((0:Int),false,[],[])):=rfl;rw [this,V7];dsimp only;rw [yE _ _ h1,JO _ _ h2,SL,SL];unfold ze;cases decide (a.1=0)<;>cases a.2.1<;>cases decide (a.2.2.1.length=0)<;>rfl
theorem WI (o:qw) (h1:o.2.2.1.length<=maxLen):p9 o=some (yF o,()):=by
 show vV BIG _=_;rw [We];have:lq (o,((0:Int),(0:Int),[],(0:Int)))=ru BIG (o,((0:Int),(0:Int),[],(0:Int))):=rfl;rw [this,Gr];dsimp only;rw [yE _ _ h1,SL];unfold yF;cases decide (o.1=0)<;>cases decide (o.2.1=0)<;>cases decide (o.2.2.1.length=0)<;>cases decide (o.2.2.2=0)<;>rfl
theorem acM (a b c d:Int):tN (a,b,c,d)=some (CE a b c d,()):=by
 show z_ BIG _=_;rw [acE];unfold CE;simp only [wW]
def stA (s:aa UInt8) (y:Int):ah (aa UInt8):=if aS y 0 100000 then some (s++vB y.toNat) else none
theorem ara (a b c d : Int) : L9 (a, b, c, d) = some (match fM stA [] [a, b, c, d] with | some s => (BA s, true) | none => (BA [], false), ()) := by
  have hm : maxLen = 9223372036854775807 := by decide
  show L8 BIG _ = _;rw [aqM];dsimp only;have h5 : ∀ y : Int, aS y 0 100000 = true → (vB y.toNat).length ≤ 5 := fun y hy => eO (by rw [aH] at hy; omega)
  have L := ayA [a, b, c, d] (by simp) (F := fun self1 x0 =>
    bif decide (x0.2 < (([a, b, c, d]).length : Int)) then
     bnd ([a, b, c, d]).length x0.2 fun n2 =>
     Option.bind ([a, b, c, d])[n2]? fun y3 =>
     Option.bind (kE (y3, (0 : Int), (100000 : Int))) fun r4 =>
     bif !r4.1 then
      some (Sum.inr ((ByteArray.mk #[]), false))
     else Option.bind (jY y3) fun r5 =>
     bif decide (x0.1.size + r5.1.1.size ≤ 4611686018427387904) then
      self1 (x0.1 ++ r5.1.1, IntKind.wrap .i64 (x0.2 + (1 : Int)))
     else none
    else some (Sum.inl x0.1)) (fun (s : aa UInt8) i => (BA s, i)) (fun i s => s.length ≤ 5 * i) stA BA ((ByteArray.mk #[]), false) (s0 := []) (by simp) (fun i s s' y _ h hs => by
      unfold stA at hs
      split at hs
      · rename_i hy
        cases hs
        have := h5 y hy
        simp; omega
      · cases hs) (by
    intro self s i y hy hs
    have hi := (bn hy).1
    have hi4 : i < 4 := hi
    simp only [show ((i : Int) < (([a, b, c, d]).length : Int)) from by omega, decide_true, au]
    rw [aJ hi, hy, af, nR, af, dK (by omega)]
    unfold stA
    cases hb : aS y 0 100000 with
    | false => rfl
    | true =>
      have := h5 y hb
      rw [aH] at hb
      simp only [bK, az, if_true, nS, af]
      rw [show aS y 0 1000000000 = true from aH.2 (by omega), if_pos rfl, iX, bE, bE, ak (by omega)]
      rfl) (by
    intro self s _
    simp)
  have L' : aU BIG _ ((ByteArray.mk #[]), (0 : Int)) = _ := L;rw [L'];cases fM stA [] [a, b, c, d] <;> rfl
theorem aAr (a b c d:Int):fM stA [] [a,b,c,d]=if aS a 0 100000&&(aS b 0 100000&&(aS c 0 100000&&aS d 0 100000)) then some (((vB a.toNat++vB b.toNat)++vB c.toNat)++vB d.toNat) else none:=by
 simp only [fM,stA];cases aS a 0 100000<;>cases aS b 0 100000<;>cases aS c 0 100000<;>cases aS d 0 100000<;>simp
abbrev Rc:=Int × Int × Int × Int × Int × Int × Int × Bool × List (Int × Int) × List Int × Int × Int × List (Int × Int) × Int
def jv (n:Int) (r:Rc):ah (aa UInt8):=
 let an:An:=(r.2.2.2.2.2.2.1,r.2.2.2.2.2.2.2.1,r.2.2.2.2.2.2.2.2.1,r.2.2.2.2.2.2.2.2.2.1)
 let o:qw:=r.2.2.2.2.2.2.2.2.2.2
 let sh:=r.2.2.2.2.2.1
 if r.1=1 then
  if (decide (sh=0)&&(ze an&&yF o))&&(aS r.2.1 0 100000&&(aS r.2.2.1 0 100000&&(aS r.2.2.2.1 0 100000&&aS r.2.2.2.2.1 0 100000))) then
   some ([1]++(((vB r.2.1.toNat++vB r.2.2.1.toNat)++vB r.2.2.2.1.toNat)++vB r.2.2.2.2.1.toNat)) else none
 else if r.1=2 then
  if (CE r.2.1 r.2.2.1 r.2.2.2.1 r.2.2.2.2.1&&(yF o&&aS sh 0 100000))&&je n an then some ([2]++(vB sh.toNat++(vB (aT an).length++aT an))) else none
 else if r.1=3 then
  if (CE r.2.1 r.2.2.1 r.2.2.2.1 r.2.2.2.2.1&&(decide (sh=0)&&ze an))&&jQ n o then some ([3]++(vB (oT o).length++oT o)) else none
 else none
def kG:ah (aa UInt8)->ByteArray × Bool
 | some s=>(BA s,true)
 | none=>(BA [],false)
theorem yG (s:aa UInt8) (h:s.length<=300):yA (BA s)=some ((BA (vB s.length++s),true),()):=by
 show Fe BIG _=_;have:=eO (v:=s.length) (by omega);rw [ajf,bE,aD (by omega),az,nS,show aS (s.length:Int) 0 1000000000=true from aH.2 (by omega),if_pos rfl,af,eH];simp only [bE,iX];rw [ak (by omega)];rfl
theorem ayD (a b c d:Int):(decide (a=0)&&(decide (b=0)&&(decide (c=0)&&(decide (d=0)&&true))))=CE a b c d:=by simp [CE]
theorem Ah {n:Int} {r:Rc} {s:aa UInt8} (h:jv n r=some s):1<=s.length/\s.length<=400:=by
 unfold jv at h;simp only at h;split at h
 ·split at h
  ·rename_i hc;cases h;simp only [aM,aH] at hc;have h1:=eO (v:=r.2.1.toNat) (by omega);have h2:=eO (v:=r.2.2.1.toNat) (by omega);have h3:=eO (v:=r.2.2.2.1.toNat) (by omega);have h4:=eO (v:=r.2.2.2.2.1.toNat) (by omega);simp only [bq,bA,bB];omega
  ·cases h
 ·split at h
  ·split at h
   ·rename_i hc;cases h;simp only [aM,aH] at hc;have h1:=Q9 hc.2;have h2:=eO (v:=r.2.2.2.2.2.1.toNat) (by omega);have h3:=eO (v:=(aT (r.2.2.2.2.2.2.1,r.2.2.2.2.2.2.2.1,r.2.2.2.2.2.2.2.2.1,r.2.2.2.2.2.2.2.2.2.1)).length) (by omega);simp only [bq,bA,bB];omega
   ·cases h
  ·split at h
   ·split at h
    ·rename_i hc;cases h;simp only [aM,aH] at hc;have h1:=Q8 hc.2;have h3:=eO (v:=(oT r.2.2.2.2.2.2.2.2.2.2).length) (by omega);simp only [bq,bA,bB];omega
    ·cases h
   ·cases h
theorem aa4 (n:Int) (r:Rc) (h1:r.2.2.2.2.2.2.2.2.1.length<=1048576) (h2:r.2.2.2.2.2.2.2.2.2.1.length<=1048576) (h3:r.2.2.2.2.2.2.2.2.2.2.2.2.1.length<=1048576):yB (n,r)=some (kG (jv n r),()):=by
 obtain ⟨k,a,b,c,d,sh,an0,an1,an2,an3,o⟩:=r;simp only at h1 h2 h3;show L_ BIG _=_;rw [aqO];dsimp only;rw [alW (an0,an1,an2,an3),aq_ o,ara,nR,ayD,aAr];have w1:=agj n (an0,an1,an2,an3) h1 h2;have w2:=ajo n o h3;rw [w1,w2];have hl:=@Ah n (k,a,b,c,d,sh,an0,an1,an2,an3,o);unfold jv at hl ⊢;simp only at hl ⊢;simp only [af];by_cases k1:k=1
 ·subst k1;simp only [decide_true,au,if_true] at hl ⊢;rw [Ml];cases hs:decide (sh=0) with
  | false=>simp [kG]<;>rfl
  | true=>
   cases hA:ze (an0,an1,an2,an3) with
   | false=>simp [kG]<;>rfl
   | true=>
    cases hO:yF o with
    | false=>simp [kG]<;>rfl
    | true=>
     cases hq:(aS a 0 100000&&(aS b 0 100000&&(aS c 0 100000&&aS d 0 100000))) with
     | false=>simp [kG]<;>rfl
     | true=>
      rw [hs,hA,hO,hq] at hl;have:=hl rfl;simp only [au,if_true,af,bK,az,p_];rw [iX,bE,bE,ak (by simp only [bq,bA,bB] at this ⊢;omega)];rfl
 ·simp only [k1,decide_false,az,if_false,af] at hl ⊢;by_cases k2:k=2
  ·subst k2;simp only [decide_true,au,if_true] at hl ⊢;rw [Ml];cases hQ:CE a b c d with
   | false=>simp [kG]<;>rfl
   | true=>
    cases hO:yF o with
    | false=>simp [kG]<;>rfl
    | true=>
     cases hs:aS sh 0 100000 with
     | false=>simp [kG]<;>rfl
     | true=>
      cases hA:je n (an0,an1,an2,an3) with
      | false=>
       simp only [au,af,if_false,eQ,yG [] (by simp),nS,bE,IL];rw [aH] at hs;rw [show aS sh 0 1000000000=true from aH.2 (by omega),if_pos rfl];have:=eO (v:=sh.toNat) (by omega);simp only [iX,bE];rw [ak (by simp [SI];omega)];simp [kG]<;>rfl
      | true=>
       rw [hQ,hO,hs,hA] at hl;have:=hl rfl;have qA:=Q9 hA;rw [aH] at hs;simp only [au,af,if_true,yG _ qA,nS,p_];rw [show aS sh 0 1000000000=true from aH.2 (by omega),if_pos rfl];simp only [iX,bE,bq,bA,bB] at this ⊢;rw [ak (by omega)];simp only [au,af,bK,az,bE,iX,bq,bA,bB];rw [ak (by omega)];rfl
  ·simp only [k2,decide_false,az,if_false,af] at hl ⊢;by_cases k3:k=3
   ·subst k3;simp only [decide_true,au,if_true] at hl ⊢;rw [Ml];cases hQ:CE a b c d with
    | false=>simp [kG]<;>rfl
    | true=>
     cases hs:decide (sh=0) with
     | false=>simp [kG]<;>rfl
     | true=>
      cases hA:ze (an0,an1,an2,an3) with
      | false=>simp [kG]<;>rfl
      | true=>
       cases hO:jQ n o with
       | false=>
        simp only [au,af,if_false,eQ,yG [] (by simp),IL];simp [kG]<;>rfl
       | true=>
        rw [hQ,hs,hA,hO] at hl;have:=hl rfl;have qA:=Q8 hO;simp only [au,af,if_true,yG _ qA,p_,bK,az,bE,iX,bq,bA,bB] at this ⊢;rw [ak (by omega)];rfl
   ·simp only [k3,decide_false,az,if_false,af];rfl
theorem bk1:ByteArray.mk #[1]=BA [1]:=by rfl
theorem bk2:ByteArray.mk #[2]=BA [2]:=by rfl
theorem bk3:ByteArray.mk #[3]=BA [3]:=by rfl
theorem arb (n:Int) (r:Rc) (h1:r.2.2.2.2.2.2.2.2.1.length<=1048576) (h2:r.2.2.2.2.2.2.2.2.2.1.length<=1048576) (h3:r.2.2.2.2.2.2.2.2.2.2.2.2.1.length<=1048576):Lu (n,r)=some (kG (jv n r),()):=by
 obtain ⟨k,a,b,c,d,sh,an0,an1,an2,an3,o⟩:=r;simp only at h1 h2 h3;have hm:maxLen=9223372036854775807:=by decide
 show Lt BIG _=_;rw [aqi];dsimp only;simp only [bk1,bk2,bk3];rw [Vf (an0,an1,an2,an3) (by simp only;omega) (by simp only;omega),WI o (by omega),acM];simp only [dz];rw [agk n (an0,an1,an2,an3) h1 h2,ajp n o h3];unfold jv;simp only [af];by_cases k1:k=1
 ·subst k1;simp only [decide_true,au,if_true];cases hs:decide (sh=0) with
  | false=>simp [kG]<;>rfl
  | true=>
   cases hA:ze (an0,an1,an2,an3) with
   | false=>simp [kG]<;>rfl
   | true=>
    cases hO:yF o with
    | false=>simp [kG]<;>rfl
    | true=>
     cases qa:aS a 0 100000 with
     | false=>simp [kG]<;>rfl
     | true=>
      cases qb:aS b 0 100000 with
      | false=>simp [kG]<;>rfl
      | true=>
       cases qc:aS c 0 100000 with
       | false=>simp [kG]<;>rfl
       | true=>
        cases qd:aS d 0 100000 with
        | false=>simp [kG]<;>rfl
        | true=>
         rw [aH] at qa qb qc qd;have wa:=kv a.toNat (by omega);have wb:=kv b.toNat (by omega);have wc:=kv c.toNat (by omega);have wd:=kv d.toNat (by omega);rw [gV (by omega)] at wa wb wc wd;have la:=eO (v:=a.toNat) (by omega);have lb:=eO (v:=b.toNat) (by omega);have lc:=eO (v:=c.toNat) (by omega);have ld:=eO (v:=d.toNat) (by omega);simp only [au,if_true,af,bK,az,p_,wa,wb,wc,wd,Ml,iX,bE,bq,bA,bB];rw [ak (by omega),ak (by omega),ak (by omega),ak (by omega)];simp [kG]
 ·simp only [k1,decide_false,az,if_false,af];by_cases k2:k=2
  ·subst k2;simp only [decide_true,au,if_true];cases hQ:CE a b c d with
   | false=>cases hA:je n (an0,an1,an2,an3)<;>simp [kG]<;>rfl
   | true=>
    cases hO:yF o with
    | false=>cases hA:je n (an0,an1,an2,an3)<;>simp [kG]<;>rfl
    | true=>
     cases hs:aS sh 0 100000 with
     | false=>cases hA:je n (an0,an1,an2,an3)<;>simp [kG]<;>rfl
     | true=>
      cases hA:je n (an0,an1,an2,an3) with
      | false=>simp [kG]<;>rfl
      | true=>
       have qA:=Q9 hA;rw [aH] at hs;have wa:=kv sh.toNat (by omega);rw [gV (by omega)] at wa;have wb:=kv (aT (an0,an1,an2,an3)).length (by omega);have la:=eO (v:=sh.toNat) (by omega);have lb:=eO (v:=(aT (an0,an1,an2,an3)).length) (by omega);simp only [au,if_true,af,bK,az,p_,wa,wb,Ml,iX,bE,bq,bA,bB];rw [ak (by omega),ak (by omega),ak (by omega)];simp [kG]
  ·simp only [k2,decide_false,az,if_false,af];by_cases k3:k=3
   ·subst k3;simp only [decide_true,au,if_true];cases hO:jQ n o with
    | false=>simp [kG]<;>rfl
    | true=>
     cases hQ:CE a b c d with
     | false=>simp [kG]<;>rfl
     | true=>
      cases hA:ze (an0,an1,an2,an3) with
      | false=>simp [kG]<;>rfl
      | true=>
       cases hs:decide (sh=0) with
       | false=>simp [kG]<;>rfl
       | true=>
        have qA:=Q8 hO;have wb:=kv (oT o).length (by omega);have lb:=eO (v:=(oT o).length) (by omega);simp only [au,if_true,af,bK,az,p_,wb,Ml,iX,bE,bq,bA,bB];rw [ak (by omega),ak (by omega)];simp [kG]
   ·simp only [k3,decide_false,az,if_false,af];rfl
def tkS (T:aa UInt8) (s:St) (v:Int):aa UInt8 × St:=
 if s.2=true\/(T.length:Int)-(s.1:Int)<v then ([],(s.1,true)) else ((T.drop s.1).take v.toNat,(s.1+v.toNat,false))
def j_ (T:aa UInt8) (s:St):aa UInt8 × St:=tkS T (nm T s).2 (nm T s).1
def ol (T:aa UInt8) (s:St):aa UInt8 × St:=
 if s.2=true then ([],(s.1,true)) else match zb (T.drop s.1) with
 | some (v,m)=>if 20000<v\/T.length-(s.1+m)<v then ([],(s.1,true)) else ((T.drop (s.1+m)).take v,(s.1+m+v,false))
 | none=>([],(s.1,true))
theorem ajx {T:aa UInt8} {s:St} (hs:s.1<=T.length) (h:(j_ T s).2.2=false) :
  s.2=false/\(j_ T s).2.1<=T.length/\T.take (j_ T s).2.1=T.take s.1++(vB (j_ T s).1.length++(j_ T s).1):=by
 have dD:=nT hs;have hnn:=ayC T s;unfold j_ tkS at h ⊢;split at h
 ·cases h
 ·rename_i hc;rw [if_neg hc];have h2:(nm T s).2.2=false:=by cases hx:(nm T s).2.2<;>simp [hx] at hc ⊢
  have h3:¬(T.length:Int)-((nm T s).2.1:Int)<(nm T s).1:=fun hx=>hc (Or.inr hx)
  obtain ⟨t1,t2,t3⟩:=qJ hs h2;refine ⟨lU h2,(by simp only;omega),?_⟩;simp only;rw [eU,kX,List.take_add,t1,show min (nm T s).1.toNat (T.length-(nm T s).2.1)=(nm T s).1.toNat from by omega,fJ]
theorem ayF {T:aa UInt8} {s:St} (hs:s.1<=T.length):((j_ T s).2.2=false->(j_ T s).1.length<=20000->ol T s=j_ T s)/\((j_ T s).2.2=false->¬(j_ T s).1.length<=20000->(ol T s).2.2=true)/\((j_ T s).2.2=true->(ol T s).2.2=true):=by
 unfold j_ ol tkS nm;cases hb:s.2 with
 | true=>simp
 | false=>
  simp only [eQ,if_false];cases hr:zb (T.drop s.1) with
  | none=>simp
  | some x=>
   obtain ⟨v,m⟩:=x;have:=Fq hr;rw [kX] at this;simp only [false_or];by_cases h1:T.length-(s.1+m)<v
   ·have:(T.length:Int)-((s.1+m:Nat):Int)<(v:Int):=by omega
    rw [if_pos (Or.inr this),if_pos (Or.inr h1)];exact ⟨fun h=>(by cases h),fun h=>(by cases h),fun _=>rfl⟩
   ·have h2:¬(T.length:Int)-((s.1+m:Nat):Int)<(v:Int):=by omega
    rw [if_neg (by simp;omega)];by_cases h3:20000<v
    ·rw [if_pos (Or.inl h3)];refine ⟨?_,fun _ _=>rfl,fun h=>by cases h⟩;intro _ h4;simp only [eU,kX,eH] at h4;omega
    ·rw [if_neg (by omega)];refine ⟨fun _ _=>by simp,?_,fun h=>by cases h⟩;intro _ h4;simp only [eU,kX,eH] at h4;omega
theorem G5 (T:aa UInt8) (s:St) (hs:s.1<=T.length) (hl:T.length<=2097152):ry (BA T,(s.1:Int),s.2)=some (BA (ol T s).1,(BA T,((ol T s).2.1:Int),(ol T s).2.2)):=by
 show ym BIG _=_;rw [aam];dsimp only;have he:E5 (BA T,(s.1:Int))=EZ BIG (BA T,(s.1:Int)):=rfl;rw [he,ai4,Mm T _ hl,bE];unfold rvR ol;rw [show aS (s.1:Int) 0 (T.length:Int)=true from aH.2 (by omega),if_pos rfl,eH];cases hr:zb (T.drop s.1) with
 | none=>cases s.2<;>rfl
 | some x=>
  obtain ⟨v,m⟩:=x;have:=Fq hr;rw [kX] at this;simp only [af,bK,az];rw [wr (n:=(T.length:Int)-((s.1:Int)+(m:Int))) (by omega) (by omega),wr (n:=(s.1:Int)+(m:Int)+(v:Int)) (by omega) (by omega)];by_cases h1:20000<v
  ·rw [ak (by omega)];simp only [au,af,h1,true_or,if_true];cases s.2<;>rfl
  ·rw [aD (by omega)];simp only [az,af,h1,false_or];by_cases h2:T.length-(s.1+m)<v
   ·rw [ak (by omega)];simp only [au,af,h2,if_true];cases s.2<;>rfl
   ·rw [aD (by omega),az,ak (by omega),au,if_neg h2,Q6];rw [show ((s.1:Int)+(m:Int)+(v:Int)).toNat=s.1+m+v from by omega,show ((s.1:Int)+(m:Int)).toNat=s.1+m from by omega,show s.1+m+v-(s.1+m)=v from by omega];cases s.2<;>simp<;>first|rfl|omega
def Vg:ah Rc->Int × Int × Int × Int × Int × Int × Int × Bool × aa (Int × Int) × aa Int × Int × Int × aa (Int × Int) × Int × Bool
 | some r=>(r.1,r.2.1,r.2.2.1,r.2.2.2.1,r.2.2.2.2.1,r.2.2.2.2.2.1,r.2.2.2.2.2.2.1,r.2.2.2.2.2.2.2.1,r.2.2.2.2.2.2.2.2.1,r.2.2.2.2.2.2.2.2.2.1,r.2.2.2.2.2.2.2.2.2.2.1,r.2.2.2.2.2.2.2.2.2.2.2.1,r.2.2.2.2.2.2.2.2.2.2.2.2.1,r.2.2.2.2.2.2.2.2.2.2.2.2.2,true)
 | none=>(0,0,0,0,0,0,0,false,[],[],0,0,[],0,false)
def CF (k sh:Int) (x:Int × Bool × aa Ed × aa Int × Bool):Rc:=(k,0,0,0,0,sh,x.1,x.2.1,x.2.2.1,x.2.2.2.1,0,0,[],0)
def CG (k:Int) (x:Int × Int × aa Ed × Int × Bool):Rc:=(k,0,0,0,0,0,0,false,[],[],x.1,x.2.1,x.2.2.1,x.2.2.2.1)
def aa5 (r:Rc):Prop:=r.2.2.2.2.2.2.2.2.1.length<=100/\r.2.2.2.2.2.2.2.2.2.1.length<=100/\r.2.2.2.2.2.2.2.2.2.2.2.2.1.length<=100
theorem aGb (n k sh:Int) (U:aa UInt8):aa5 (CF k sh (ul (uk n U))):=by
 cases h:uk n U with
 | none=>simp [CF,ul,aa5]
 | some a=>
  have:=wO (WH h).1;have h2:=g_ this.2.2.2.2.1;exact ⟨by simp only [CF,ul];omega,by simp only [CF,ul];omega,by simp [CF]⟩
theorem aGc (n k:Int) (U:aa UInt8):aa5 (CG k (uQ (uj n U))):=by
 cases h:uj n U with
 | none=>simp [CG,uQ,aa5]
 | some a=>
  have:=Ag (WF h).1;have h2:=g_ this.2.2.2.2.2.2.2.2;exact ⟨by simp [CG],by simp [CG],by simp only [CG,uQ];omega⟩
theorem agG (n:Int) (T:aa UInt8) (s:St) (r:Rc) (fine:Bool) (h:aa5 r) :
  (Option.bind (yB (n,r)) fun r11=>
   Option.bind (bif !fine then some true
    else Option.bind (jI (BA T,(s.1:Int),s.2)) fun r12=>
    bif !r12.1 then some true
    else bif !r11.1.2 then some true
    else some (!(r11.1.1.toList == (BA T).toList)):ah (Bool)) fun x13=>
   bif x13 then some (((0:Int),(0:Int),(0:Int),(0:Int),(0:Int),(0:Int),(0:Int),false,([]:aa (Int × Int)),([]:aa Int),(0:Int),(0:Int),([]:aa (Int × Int)),(0:Int),false),())
   else some (Vg (some r),()))=some (Vg (if fine=true/\s.2=false/\s.1=T.length/\jv n r=some T then some r else none),()):=by
 rw [aa4 n r (by have:=h.1;omega) (by have:=h.2.1;omega) (by have:=h.2.2;omega)];have he:∀p b,jI (BA T,p,b)=some (!b&&decide (p=(T.length:Int)),(BA T,p,b)):=by
  intro p b;show oZ BIG _=_;rw [Ac];cases b<;>rfl
 rw [he];simp only [af];cases fine with
 | false=>rfl
 | true=>
  cases hb:s.2 with
  | true=>rfl
  | false=>
   by_cases hp:s.1=T.length
   ·cases hr:jv n r with
    | none=>simp [hp,kG,Vg]
    | some t=>
     simp only [hp,kG,pI];by_cases ht:t=T
     ·simp [ht,Vg]
     ·have hb:(t == T)=false:=beq_eq_false_iff_ne.2 ht;simp [hb,ht,Vg]
   ·have:decide ((s.1:Int)=(T.length:Int))=false:=aD (by omega);simp [this,hp,Vg]
def pJ (n:Int) (T:aa UInt8):St × Rc:=
 let p:=on T (0,false)
 if p.1=1 then
  let a:=nm T p.2;let b:=nm T a.2;let c:=nm T b.2;let d:=nm T c.2
  (d.2,(p.1,a.1,b.1,c.1,d.1,0,0,false,[],[],0,0,[],0))
 else if p.1=2 then
  let a:=nm T p.2;let u:=j_ T a.2
  (u.2,CF p.1 a.1 (ul (uk n u.1)))
 else if p.1=3 then
  let u:=j_ T p.2
  (u.2,CG p.1 (uQ (uj n u.1)))
 else (p.2,(p.1,0,0,0,0,0,0,false,[],[],0,0,[],0))
def rcD (n:Int) (T:aa UInt8):ah Rc:=if (pJ n T).1.2=false/\jv n (pJ n T).2=some T then some (pJ n T).2 else none
theorem aAs {n:Int} {T:aa UInt8} (h:(pJ n T).1.2=false) (hr:jv n (pJ n T).2=some T):(pJ n T).1.1=T.length:=by
 have l0:(on T (0,false)).2.1<=T.length:=yD (lN _);have t0:=@wP T (0,false);unfold pJ at h hr ⊢;simp only at h hr ⊢ t0;generalize on T (0,false)=p at l0 h hr t0 ⊢;by_cases k1:p.1=1
 ·simp only [k1,if_true] at h hr ⊢;have l1:=nT l0;have l2:=nT l1;have l3:=nT l2;have l4:=nT l3;obtain ⟨a4,_⟩:=qJ l3 h;obtain ⟨a3,_⟩:=qJ l2 (lU h);obtain ⟨a2,_⟩:=qJ l1 (lU (lU h));obtain ⟨a1,_⟩:=qJ l0 (lU (lU (lU h)));obtain ⟨a0,_⟩:=t0 (lU (lU (lU (lU h))));rw [a3,a2,a1,a0,k1] at a4;unfold jv at hr;simp only [if_true] at hr;split at hr
  ·have hr:=Aq hr;refine (Q_ l4).1 ?_;rw [a4];refine Eq.trans ?_ hr;simp only [A7,dN,fJ];rfl
  ·cases hr
 ·simp only [k1,if_false] at h hr ⊢;by_cases k2:p.1=2
  ·simp only [k2,if_true] at h hr ⊢;have l1:=nT l0;obtain ⟨b1,b2,b3⟩:=ajx l1 h;obtain ⟨a1,_⟩:=qJ l0 b1;obtain ⟨a0,_⟩:=t0 (lU b1);rw [a1,a0,k2] at b3;refine (Q_ b2).1 ?_;rw [b3];cases hA:uk n (j_ T (nm T p.2).2).1 with
   | none=>
    rw [hA] at hr;unfold jv CF ul at hr;simp only [show ¬(2:Int)=1 from by decide,if_false,if_true] at hr;split at hr
    ·rename_i hc;simp only [aM] at hc;have:=wO hc.2;simp only at this;omega
    ·cases hr
   | some a=>
    have hT:=(WH hA).2;rw [hA] at hr;unfold jv CF ul at hr;simp only [show ¬(2:Int)=1 from by decide,if_false,if_true] at hr;split at hr
    ·have hr:=Aq hr;refine Eq.trans ?_ hr;have:aT (a.1,a.2.1,a.2.2.1,a.2.2.2)=aT a:=rfl;rw [this,hT];simp only [A7,dN,fJ];rfl
    ·cases hr
  ·simp only [k2,if_false] at h hr ⊢;by_cases k3:p.1=3
   ·simp only [k3,if_true] at h hr ⊢;obtain ⟨b1,b2,b3⟩:=ajx l0 h;obtain ⟨a0,_⟩:=t0 b1;rw [a0,k3] at b3;refine (Q_ b2).1 ?_;rw [b3];cases hA:uj n (j_ T p.2).1 with
    | none=>
     rw [hA] at hr;unfold jv CG uQ at hr;simp only [show ¬(3:Int)=1 from by decide,show ¬(3:Int)=2 from by decide,if_false,if_true] at hr;split at hr
     ·rename_i hc;simp only [aM] at hc;have:=Ag hc.2;simp only at this;omega
     ·cases hr
    | some a=>
     have hT:=(WF hA).2;rw [hA] at hr;unfold jv CG uQ at hr;simp only [show ¬(3:Int)=1 from by decide,show ¬(3:Int)=2 from by decide,if_false,if_true] at hr;split at hr
     ·have hr:=Aq hr;refine Eq.trans ?_ hr;have:oT (a.1,a.2.1,a.2.2.1,a.2.2.2)=oT a:=rfl;rw [this,hT];simp only [A7,dN,fJ];rfl
     ·cases hr
   ·simp only [k3,if_false] at h hr;unfold jv at hr;simp only [k1,k2,k3,if_false] at hr;cases hr
theorem aa6 (n:Int) (T:aa UInt8):(if true=true/\(pJ n T).1.2=false/\(pJ n T).1.1=T.length/\jv n (pJ n T).2=some T then some (pJ n T).2 else none)=rcD n T:=by
 unfold rcD;by_cases h:(pJ n T).1.2=false/\jv n (pJ n T).2=some T
 ·rw [if_pos h,if_pos ⟨rfl,h.1,aAs h.1 h.2,h.2⟩]
 ·rw [if_neg h,if_neg (fun hc=>h ⟨hc.2.1,hc.2.2.2⟩)]
theorem aa7 (n:Int) (T:aa UInt8) (hl:T.length<=1048576):Dz (n,BA T)=some (Vg (rcD n T),()):=by
 show Mc BIG _=_;have r0:fH (BA T,(0:Int),false)=some ((on T (0,false)).1,(BA T,((on T (0,false)).2.1:Int),(on T (0,false)).2.2)):=ny T (0,false) (lN _) (by omega);have l0:(on T (0,false)).2.1<=T.length:=yD (lN _);rw [aqQ,r0,af];dsimp only;by_cases k1:(on T (0,false)).1=1
 ·have hS:pJ n T=((nm T (nm T (nm T (nm T (on T (0,false)).2).2).2).2).2,(1,(nm T (on T (0,false)).2).1,(nm T (nm T (on T (0,false)).2).2).1,(nm T (nm T (nm T (on T (0,false)).2).2).2).1,(nm T (nm T (nm T (nm T (on T (0,false)).2).2).2).2).1,0,0,false,[],[],0,0,[],0)):=by
   unfold pJ;simp only [k1,if_true]
  rw [<-aa6,hS];simp only [k1,decide_true,au];generalize on T (0,false)=p at l0;rw [jC T p.2 l0 (by omega),af];have l1:=nT l0;rw [jC T _ l1 (by omega),af];have l2:=nT l1;rw [jC T _ l2 (by omega),af];have l3:=nT l2;rw [jC T _ l3 (by omega),af,af];refine (agG n T (nm T (nm T (nm T (nm T p.2).2).2).2).2 (1,(nm T p.2).1,(nm T (nm T p.2).2).1,(nm T (nm T (nm T p.2).2).2).1,(nm T (nm T (nm T (nm T p.2).2).2).2).1,0,0,false,[],[],0,0,[],0) true ⟨by simp,by simp,by simp⟩).trans ?_;congr;simp
 ·by_cases k2:(on T (0,false)).1=2
  ·have hS:pJ n T=((j_ T (nm T (on T (0,false)).2).2).2,CF 2 (nm T (on T (0,false)).2).1 (ul (uk n (j_ T (nm T (on T (0,false)).2).2).1))):=by
    unfold pJ;simp only [k2,if_true,show ¬(2:Int)=1 from by decide,if_false]
   simp only [k2,show ¬(2:Int)=1 from by decide,decide_false,az,decide_true,au];rw [<-aa6,hS];generalize on T (0,false)=p at l0;have l1:=nT l0;rw [jC T p.2 l0 (by omega),af,G5 T _ l1 (by omega),af];obtain ⟨e1,e2,e3⟩:=ayF l1;have hU:(ol T (nm T p.2).2).1.length<=1048576:=by
    unfold ol;split
    ·simp
    ·split
     ·split
      ·simp
      ·simp only [eU,kX];omega
     ·simp
   simp only;rw [agl n _ hU,af,af];refine (agG n T (ol T (nm T p.2).2).2 (CF 2 (nm T p.2).1 (ul (uk n (ol T (nm T p.2).2).1))) (ul (uk n (ol T (nm T p.2).2).1)).2.2.2.2 (aGb n _ _ _)).trans ?_;have key:(if (ul (uk n (ol T (nm T p.2).2).1)).2.2.2.2=true/\(ol T (nm T p.2).2).2.2=false/\(ol T (nm T p.2).2).2.1=T.length/\jv n (CF 2 (nm T p.2).1 (ul (uk n (ol T (nm T p.2).2).1)))=some T then some (CF 2 (nm T p.2).1 (ul (uk n (ol T (nm T p.2).2).1))) else none) =
     (if true=true/\(j_ T (nm T p.2).2).2.2=false/\(j_ T (nm T p.2).2).2.1=T.length/\jv n (CF 2 (nm T p.2).1 (ul (uk n (j_ T (nm T p.2).2).1)))=some T then some (CF 2 (nm T p.2).1 (ul (uk n (j_ T (nm T p.2).2).1))) else none):=by
    have gU:∀U,uk n U=none->jv n (CF 2 (nm T p.2).1 (ul (uk n U)))≠some T:=by
     intro U hA hr;rw [hA] at hr;unfold jv CF ul at hr;simp only [show ¬(2:Int)=1 from by decide,if_false,if_true] at hr;split at hr
     ·rename_i hc;simp only [aM] at hc;have:=wO hc.2;simp only at this;omega
     ·cases hr
    cases hb:(j_ T (nm T p.2).2).2.2 with
    | true=>rw [if_neg (fun h=>by rw [e3 hb] at h;cases h.2.1),if_neg (fun h=>by cases h.2.1)]
    | false=>
     by_cases bJ:(j_ T (nm T p.2).2).1.length<=20000
     ·rw [e1 hb bJ,hb];cases hA:uk n (j_ T (nm T p.2).2).1 with
      | none=>
       have:=gU _ hA;rw [hA] at this;rw [if_neg (fun h=>this h.2.2.2),if_neg (fun h=>this h.2.2.2)]
      | some a=>rfl
     ·rw [if_neg (fun h=>by rw [e2 hb bJ] at h;cases h.2.1)];cases hA:uk n (j_ T (nm T p.2).2).1 with
      | none=>
       have:=gU _ hA;rw [hA] at this;rw [if_neg (fun h=>this h.2.2.2)]
      | some a=>
       exfalso;have h1:=WH hA;have:=Q9 h1.1;rw [h1.2] at this;omega
   rw [key];congr;simp
  ·by_cases k3:(on T (0,false)).1=3
   ·have hS:pJ n T=((j_ T (on T (0,false)).2).2,CG 3 (uQ (uj n (j_ T (on T (0,false)).2).1))):=by
     unfold pJ;simp only [k3,if_true,show ¬(3:Int)=1 from by decide,show ¬(3:Int)=2 from by decide,if_false]
    simp only [k3,show ¬(3:Int)=1 from by decide,show ¬(3:Int)=2 from by decide,decide_false,az,decide_true,au];rw [<-aa6,hS];generalize on T (0,false)=p at l0;rw [G5 T _ l0 (by omega),af];obtain ⟨e1,e2,e3⟩:=ayF l0;have hU:(ol T p.2).1.length<=1048576:=by
     unfold ol;split
     ·simp
     ·split
      ·split
       ·simp
       ·simp only [eU,kX];omega
      ·simp
    simp only;rw [ajt n _ hU,af,af];refine (agG n T (ol T p.2).2 (CG 3 (uQ (uj n (ol T p.2).1))) (uQ (uj n (ol T p.2).1)).2.2.2.2 (aGc n _ _)).trans ?_;have key:(if (uQ (uj n (ol T p.2).1)).2.2.2.2=true/\(ol T p.2).2.2=false/\(ol T p.2).2.1=T.length/\jv n (CG 3 (uQ (uj n (ol T p.2).1)))=some T then some (CG 3 (uQ (uj n (ol T p.2).1))) else none) =
      (if true=true/\(j_ T p.2).2.2=false/\(j_ T p.2).2.1=T.length/\jv n (CG 3 (uQ (uj n (j_ T p.2).1)))=some T then some (CG 3 (uQ (uj n (j_ T p.2).1))) else none):=by
     have gU:∀U,uj n U=none->jv n (CG 3 (uQ (uj n U)))≠some T:=by
      intro U hA hr;rw [hA] at hr;unfold jv CG uQ at hr;simp only [show ¬(3:Int)=1 from by decide,show ¬(3:Int)=2 from by decide,if_false,if_true] at hr;split at hr
      ·rename_i hc;simp only [aM] at hc;have:=Ag hc.2;simp only at this;omega
      ·cases hr
     cases hb:(j_ T p.2).2.2 with
     | true=>rw [if_neg (fun h=>by rw [e3 hb] at h;cases h.2.1),if_neg (fun h=>by cases h.2.1)]
     | false=>
      by_cases bJ:(j_ T p.2).1.length<=20000
      ·rw [e1 hb bJ,hb];cases hA:uj n (j_ T p.2).1 with
       | none=>
        have:=gU _ hA;rw [hA] at this;rw [if_neg (fun h=>this h.2.2.2),if_neg (fun h=>this h.2.2.2)]
       | some a=>rfl
      ·rw [if_neg (fun h=>by rw [e2 hb bJ] at h;cases h.2.1)];cases hA:uj n (j_ T p.2).1 with
       | none=>
        have:=gU _ hA;rw [hA] at this;rw [if_neg (fun h=>this h.2.2.2)]
       | some a=>
        exfalso;have h1:=WF hA;have:=Q8 h1.1;rw [h1.2] at this;omega
    rw [key];congr;simp
   ·have hS:pJ n T=((on T (0,false)).2,((on T (0,false)).1,0,0,0,0,0,0,false,[],[],0,0,[],0)):=by
     unfold pJ;simp only [k1,k2,k3,if_false]
    rw [<-aa6,hS];simp only [k1,k2,k3,decide_false,az,af];refine (agG n T (on T (0,false)).2 ((on T (0,false)).1,0,0,0,0,0,0,false,[],[],0,0,[],0) true ⟨by simp,by simp,by simp⟩).trans ?_;congr;simp
theorem ajy {α:Type} (a:aa α) (hl:a.length<18446744073709551616) (p:α->Bool) {F:(Int->ah (Unit ⊕ Int))->Int->ah (Unit ⊕ Int)}
  (hF:∀self (i:Nat) y,a[i]?=some y->F self (i:Int)=if p y then some (.inr (i:Int)) else self ((i+1:Nat):Int))
  (hE:∀self,F self (a.length:Int)=some (.inl ())):aU BIG F 0=some (if a.findIdx p<a.length then .inr (a.findIdx p:Int) else .inl ()):=by
 refine qI (fun (x:Int)=>∃i:Nat,x=(i:Int)/\i<=a.length/\∀j (hj:j<a.length),j<i->p a[j]=false) (fun x=>a.length-x.toNat) (fun _=>_) (fun self x ⟨i,h1,h2,h3⟩ hs => ?_) (n:=BIG) (x:=0) (by simp;exact hl) ⟨0,rfl,by simp,fun j _ hj=>by omega⟩;subst h1;by_cases hi:i<a.length
 ·rw [hF self i a[i] (aZ hi)];cases hp:p a[i] with
  | true=>
   have:a.findIdx p=i:=(List.findIdx_eq hi).2 ⟨hp,fun j hj=>h3 j (by omega) hj⟩;rw [if_pos rfl,this,if_pos hi]
  | false=>
   rw [if_neg (by simp)];exact hs _ ⟨i+1,rfl,hi,fun j hj iE=>by
    by_cases hj':j=i
    ·subst hj';exact hp
    ·exact h3 j hj (by omega)⟩ (by simp;omega)
 ·have he:i=a.length:=by omega
  subst he;rw [hE,if_neg];intro h;have h4:=List.findIdx_lt_length.1 h;obtain ⟨x,hx,hpx⟩:=h4;obtain ⟨j,hj,rfl⟩:=CV hx;rw [h3 j hj hj] at hpx;cases hpx
def sA (l:aa Sd) (k:Int):Int:=if l.findIdx (fun y=>decide (y.1=k))<l.length then (l.findIdx (fun y=>decide (y.1=k)):Int) else -1
theorem Mo (x0:Int) (x1:aa Int) (x2:aa Ed) (x3:aa (aa Int)) (x4:aa Int) (x5 x6 x7 x8 x9 x10 x11:Int) (x12:aa Ed) (x13:Int) (l:aa Sd) (k:Int) (hl:l.length<=1048576):xS ((x0,x1,x2,x3,x4,x5,x6,x7,x8,x9,x10,x11,x12,x13,l),k)=some (sA l k,()):=by
 have hm:maxLen=9223372036854775807:=by decide
 show KP BIG _=_;rw [apD];dsimp only;rw [ajy l (by omega) (fun y=>decide (y.1=k))]
 ·unfold sA;split<;>rfl
 ·intro self i y hy;have hi:=(bn hy).1;simp only [show ((i:Int)<(l.length:Int)) from by omega,decide_true,au];rw [aJ hi,hy,af,dK (by omega)];cases decide (y.1=k)<;>rfl
 ·intro self;simp
def tB (a b c d sh:Int) (o:qw):Bool:=CE a b c d&&(decide (sh=0)&&yF o)
theorem aa8 (a b c d sh:Int) (o:qw) (h1:o.2.2.1.length<=maxLen):xY (a,b,c,d,sh,o)=some (tB a b c d sh o,()):=by
 show xX BIG _=_;rw [YE];dsimp only;rw [ayD];have h0:lq (o,((0:Int),(0:Int),[],(0:Int)))=some (yF o,()):=by
  have:lq (o,((0:Int),(0:Int),[],(0:Int)))=ru BIG (o,((0:Int),(0:Int),[],(0:Int))):=rfl;rw [this,Gr];dsimp only;rw [yE _ _ h1,SL];unfold yF;cases decide (o.1=0)<;>cases decide (o.2.1=0)<;>cases decide (o.2.2.1.length=0)<;>cases decide (o.2.2.2=0)<;>rfl
 rw [h0];unfold tB;cases CE a b c d<;>cases decide (sh=0)<;>cases yF o<;>rfl
def CJ (n:Int) (k:Nat) (op a b:Int):Bool:=
 aS op 1 4&&(aS a 0 (n-1)&&(bif decide (op=4) then aS b 1 k else aS b 0 (n-1) && !(decide (a=b)&&(decide (op=1) || decide (op=2)))))
theorem Vh (x0:Int) (x1:aa Int) (x2:aa Ed) (x3:aa (aa Int)) (x4:aa Int) (x5 x6 x7 x8 x9 x10 x11:Int) (x12:aa Ed) (x13:Int) (x14:aa Sd) (i op a b:Int) (h0:1<=x0/\x0<=12):Ay ((x0,x1,x2,x3,x4,x5,x6,x7,x8,x9,x10,x11,x12,x13,x14),(i,op,a,b))=some (CJ x0 x3.length op a b,()):=by
 show Ic BIG _=_;rw [ak7];dsimp only;rw [wr (by omega) (by omega)];simp only [dz];unfold CJ;by_cases h4:op=4
 ·subst h4;simp only [decide_true,au,af];cases aS 4 1 4<;>cases aS a 0 (x0-1)<;>cases aS b 1 (x3.length:Int)<;>rfl
 ·simp only [h4,decide_false,az,af];by_cases h3:op=3
  ·subst h3;simp only [decide_true,au,af];cases aS 3 1 4<;>cases aS a 0 (x0-1)<;>cases aS b 0 (x0-1)<;>cases decide (a=b)<;>rfl
  ·simp only [h3,decide_false,az];cases hq:aS op 1 4 with
   | false=>rfl
   | true=>
    have:(decide (op=1) || decide (op=2))=true:=by
     rw [aH] at hq;by_cases op=1<;>by_cases op=2<;>simp_all<;>omega
    rw [this];cases aS a 0 (x0-1)<;>cases aS b 0 (x0-1)<;>cases decide (a=b)<;>rfl
theorem gD {α:Type} {l:aa α} {i:Nat} {y d:α} (h:l[i]?=some y):l.getD i d=y:=by rw [dA,h];rfl
def p1 (k:Nat) (l:aa Int) (i:Nat):Bool:=aS (l.getD i 0) 1 k
def p2 (own:aa Int) (cuts:aa Ed) (i:Nat):Bool:=!decide (own.getD (cuts.getD i (0,0)).1.toNat 0=own.getD (cuts.getD i (0,0)).2.toNat 0)
def p3 (n:Int) (L:aa (aa Int)) (nums:aa Int) (i:Nat):Bool:=vW n (L.getD i [])&&aS (nums.getD i 0) 0 99991
def p4c (l:aa Sd) (i:Nat) (y:Sd):Bool:=decide (y.1=y.2.1)&&(aS y.2.2.2.2.2 1 3&&decide (sA l y.1=(i:Int)))
def p4 (l:aa Sd) (i:Nat):Bool:=p4c l i (l.getD i (0,0,0,0,0,0))
abbrev oP1 (k:Nat) (l:List Int):Prop:=∀i,i<l.length->p1 k l i=true
abbrev oP2 (own:List Int) (cuts:List Ed):Prop:=∀i,i<cuts.length->p2 own cuts i=true
abbrev oP3 (n:Int) (L:List (List Int)) (nums:List Int):Prop:=∀i,i<L.length->p3 n L nums i=true
abbrev NQ (l:List Sd):Prop:=∀i,i<l.length->p4 l i=true
theorem aAt (own:aa Int) (cuts:aa Ed) (n:Int) (he:mM n cuts=true) (hn:(own.length:Int)=n) {B:Type} (self:Int->ah (Unit ⊕ Bool)) (i:Nat) (y:Ed) (hy:cuts[i]?=some y) (hl:cuts.length<=1048576) :
  (bnd own.length y.1 fun n12=>
   Option.bind own[n12]? fun y13=>
   bnd own.length y.2 fun n14=>
   Option.bind own[n14]? fun y15=>
   bif decide (y13=y15) then some (Sum.inr false)
   else self (IntKind.wrap .i64 ((i:Int)+(1:Int))))=if p2 own cuts i then self ((i+1:Nat):Int) else some (.inr false):=by
 have hm:maxLen=9223372036854775807:=by decide
 have hi:=(bn hy).1;subst hn;have hb:=il ((o9 he).1 y (iA hy));have h1:own[y.1.toNat]?=some (own[y.1.toNat]'(by omega)):=aZ (by omega);have h2:own[y.2.toNat]?=some (own[y.2.toNat]'(by omega)):=aZ (by omega);rw [dO (by omega) (by omega),h1,af,dO (by omega) (by omega),h2,af,dK (by omega)];unfold p2;rw [gD hy,gD h1,gD h2];cases decide (own[y.1.toNat]'(by omega)=own[y.2.toNat]'(by omega))<;>rfl
open Classical in
noncomputable def CK (n:Int) (own:aa Int) (cuts:aa Ed) (L:aa (aa Int)) (nums:aa Int) (said:aa Sd) (t:Bool):Bool:=
 decide ((aS n 1 12=true/\aS (L.length:Int) 1 3=true/\nums.length=L.length)/\oP3 n L nums/\((own.length:Int)=n/\mM n cuts=true)/\oP1 L.length own/\oP2 own cuts/\(NQ said/\said.length<=80)/\t=true)
def Fv (n:Int) (k:Nat) (nums:aa Int) (said:aa Sd) (id op a b sh:Int) (o:qw):Bool:=
 tB id op a b sh o || ((aS id 1 100000&&(!decide (op=3)&&CJ n k op a b))&&(aS sh 1 k&&(jQ n o&&(decide (o.1=IntKind.wrap .i64 (nums.getD (sh-1).toNat 0+1))&&decide (sA said id<0)))))
theorem ajz (x0:Int) (x1:aa Int) (x2:aa Ed) (x3:aa (aa Int)) (x4:aa Int) (x5 x6 x7 x8 x9 x10 x11:Int) (x12:aa Ed) (x13:Int) (x14:aa Sd) (h0:1<=x0/\x0<=12) (h4:x4.length=x3.length) (hk:x3.length<=3) (gT:x12.length<=1048576) (CP:x14.length<=1048576) :
  Ey (x0,x1,x2,x3,x4,x5,x6,x7,x8,x9,x10,x11,x12,x13,x14)=some (Fv x0 x3.length x4 x14 x5 x6 x7 x8 x9 (x10,x11,x12,x13),()):=by
 have hm:maxLen=9223372036854775807:=by decide
 show Ew BIG _=_;rw [ain];dsimp only;rw [aa8 x5 x6 x7 x8 x9 (x10,x11,x12,x13) (by simp only;omega),af,Vh _ _ _ _ _ _ _ _ _ _ _ _ _ _ _ _ _ _ _ h0,Mo _ _ _ _ _ _ _ _ _ _ _ _ _ _ _ _ CP];simp only [dz];unfold Fv;cases tB x5 x6 x7 x8 x9 (x10,x11,x12,x13) with
 | true=>rfl
 | false=>
  simp only [az,af,DW];cases hs:aS x9 1 (x3.length:Int) with
  | false=>simp
  | true=>
   rw [Mk x0 (x10,x11,x12,x13) gT];simp only [au,af,gz];cases jQ x0 (x10,x11,x12,x13) with
   | false=>simp
   | true=>
    rw [aH] at hs;have h1:x4[(x9-1).toNat]?=some (x4[(x9-1).toNat]'(by omega)):=aZ (by omega);rw [au,wr (n:=x9-1) (by omega) (by omega),dO (by omega) (by omega),h1,af,gD h1];simp only [gz];cases decide (x10=IntKind.wrap .i64 (x4[(x9-1).toNat]'(by omega)+1))<;>cases decide (sA x14 x5<0)<;>cases CJ x0 x3.length x6 x7 x8<;>cases decide (x6=3)<;>cases aS x5 1 100000<;>rfl
theorem aGd {n:Int} {own:aa Int} {cuts:aa Ed} {L:aa (aa Int)} {nums:aa Int} {said:aa Sd} {t:Bool} (h:(aS n 1 12=true/\aS (L.length:Int) 1 3=true/\nums.length=L.length)/\oP3 n L nums/\((own.length:Int)=n/\mM n cuts=true)/\oP1 L.length own/\oP2 own cuts/\(NQ said/\said.length<=80)/\t=true):CK n own cuts L nums said t=true:=by
 unfold CK;exact ak h
theorem Fx {n:Int} {own:aa Int} {cuts:aa Ed} {L:aa (aa Int)} {nums:aa Int} {said:aa Sd} {t:Bool} (h:(aS n 1 12=true/\aS (L.length:Int) 1 3=true/\nums.length=L.length)/\oP3 n L nums/\((own.length:Int)=n/\mM n cuts=true)/\oP1 L.length own/\oP2 own cuts/\(NQ said/\said.length<=80)/\t=true->False):CK n own cuts L nums said t=false:=by
 unfold CK;exact aD h
open Classical in
theorem afm (x0 : Int) (x1 : aa Int) (x2 : aa Ed) (x3 : aa (aa Int)) (x4 : aa Int) (x5 x6 x7 x8 x9 x10 x11 : Int) (x12 : aa Ed) (x13 : Int) (x14 : aa Sd) (h1 : x1.length ≤ 1048576) (h2 : x2.length ≤ 1048576) (h3 : x3.length ≤ 1048576 ∧ ∀ y, y ∈ x3 → y.length ≤ 1048576) (gT : x12.length ≤ 1048576) (CP : x14.length ≤ 1048576) :
    Gw (x0, x1, x2, x3, x4, x5, x6, x7, x8, x9, x10, x11, x12, x13, x14) = some (CK x0 x1 x2 x3 x4 x14 (Fv x0 x3.length x4 x14 x5 x6 x7 x8 x9 (x10, x11, x12, x13)), ()) := by
  have hm : maxLen = 9223372036854775807 := by decide
  show Py BIG _ = _;rw [atu];dsimp only;rw [AQ x0 x2 h2];simp only [dz];cases ha : aS x0 1 12 with
  | false => rw [Fx (fun h => by rw [ha] at h; cases h.1.1)]; rfl
  | true =>
    cases hb : aS (x3.length : Int) 1 3 with
    | false => rw [Fx (fun h => by rw [hb] at h; cases h.1.2.1)]; rfl
    | true =>
      by_cases hc : x4.length = x3.length
      · rw [ak (show (x4.length : Int) = (x3.length : Int) from by omega)]
        simp only [bK, az, af]
        by_cases hn : (x1.length : Int) = x0
        · rw [ak hn]
          cases he : mM x0 x2 with
          | false => rw [Fx (fun h => by rw [he] at h; cases h.2.2.1.2)]; rfl
          | true =>
            simp only [bK, az, af];by_cases hs : x14.length ≤ 80
            · rw [aD (show ¬ (80 : Int) < (x14.length : Int) from by omega), az]
              rw [ni x3 (by omega) (p3 x0 x3 x4) false]
              · by_cases hp : oP3 x0 x3 x4
                · rw [if_pos hp]
                  simp only [af]
                  have L1 := ni x1 (by omega) (p1 x3.length x1) false (F := fun (self16 : Int → ah (Unit ⊕ Bool)) (x15 : Int) =>
                     bif decide (x15 < x0) then
                      bnd x1.length x15 fun n17 =>
                      Option.bind x1[n17]? fun y18 =>
                      bif !aS y18 (1 : Int) (x3.length : Int) then
                       some (Sum.inr false)
                      else self16 (IntKind.wrap .i64 (x15 + (1 : Int)))
                     else some (Sum.inl ())) (by
                    intro self i y hy
                    have hi := (bn hy).1
                    simp only [show ((i : Int) < x0) from by omega, decide_true, au]
                    rw [aJ hi, hy, af, dK (by omega)]
                    unfold p1
                    rw [gD hy]
                    cases aS y 1 (x3.length : Int) <;> rfl) (by
                    intro self
                    simp [hn])
                  rw [L1]
                  by_cases Vo : oP1 x3.length x1
                  · rw [if_pos Vo]
                    simp only [af]
                    rw [ni x2 (by omega) (p2 x1 x2) false]
                    · by_cases Rz : oP2 x1 x2
                      · rw [if_pos Rz]
                        simp only [af]
                        rw [ni x14 (by omega) (p4 x14) false]
                        · by_cases hp4 : NQ x14
                          · rw [if_pos hp4]
                            have ha0 := ha
                            have hb0 := hb
                            rw [aH] at ha hb
                            simp only [af]
                            rw [ajz _ _ _ _ _ _ _ _ _ _ _ _ _ _ _ ha hc (by omega) gT CP]
                            simp only [af]
                            cases q3 : Fv x0 x3.length x4 x14 x5 x6 x7 x8 x9 (x10, x11, x12, x13) with
                            | false => rw [Fx (fun h => by cases h.2.2.2.2.2.2)]
                            | true => rw [aGd ⟨⟨ha0, hb0, hc⟩, hp, ⟨hn, he⟩, Vo, Rz, ⟨hp4, hs⟩, rfl⟩]
                          · rw [if_neg hp4, Fx (fun h => hp4 h.2.2.2.2.2.1.1)]; rfl
                        · intro self i y hy
                          have hi := (bn hy).1
                          simp only [show ((i : Int) < (x14.length : Int)) from by omega, decide_true, au]
                          simp only [aJ hi, hy, af, dK (show i < maxLen from by omega), Mo _ _ _ _ _ _ _ _ _ _ _ _ _ _ _ _ CP]
                          unfold p4
                          rw [gD hy]
                          unfold p4c
                          cases decide (y.1 = y.2.1) <;> cases aS y.2.2.2.2.2 1 3 <;> cases decide (sA x14 y.1 = (i : Int)) <;> rfl
                        · intro self; simp
                      · rw [if_neg Rz, Fx (fun h => Rz h.2.2.2.2.1)]; rfl
                    · intro self i y hy
                      have hi := (bn hy).1
                      simp only [show ((i : Int) < (x2.length : Int)) from by omega, decide_true, au]
                      simp only [aJ hi, hy, af]
                      exact aAt x1 x2 x0 he hn (B := Unit) self i y hy h2
                    · intro self; simp
                  · rw [if_neg Vo, Fx (fun h => Vo h.2.2.2.1)]; rfl
                · rw [if_neg hp, Fx (fun h => hp h.2.1)]; rfl
              · intro self i y hy
                have hi := (bn hy).1
                have hz : x4[i]? = some (x4[i]'(by omega)) := aZ (by omega)
                simp only [show ((i : Int) < (x3.length : Int)) from by omega, decide_true, au]
                simp only [aJ hi, hy, af, QZ x0 y (h3.2 y (iA hy)), aJ (show i < x4.length from by omega), hz, dK (show i < maxLen from by omega)]
                unfold p3
                rw [gD hy, gD hz]
                cases vW x0 y <;> cases aS (x4[i]'(by omega)) 0 99991 <;> rfl
              · intro self; simp
            · rw [ak (show (80 : Int) < (x14.length : Int) from by omega), Fx (fun h => hs h.2.2.2.2.2.1.2)]; rfl
        · rw [aD hn, Fx (fun h => hn h.2.2.1.1)]; rfl
      · rw [aD (show ¬ (x4.length : Int) = (x3.length : Int) from by omega), Fx (fun h => hc h.1.2.2)]; rfl
theorem anM (x:Int):0<=IntKind.wrap .u32 x/\IntKind.wrap .u32 x<=4294967295:=by
 simp only [IntKind.wrap,IntKind.bits,IntKind.signed];simp;omega
theorem ajA (op:BinOp) (a b:Int):0<=bits op .u32 a b:=(anM _).1
theorem ajB (op:BinOp) (a b:Int):bits op .u32 a b<=4294967295:=(anM _).2
theorem aEe (x:Int) (h0:0<=x) (h1:x<=4294967295):bits .and .u32 x 1=x % 2:=by
 obtain ⟨a,rfl⟩:∃a:Nat,x=a:=⟨x.toNat,by omega⟩
 have e1:(BitVec.ofInt 32 (a:Int)).toNat=a:=by
  rw [BitVec.ofInt_natCast,BitVec.toNat_ofNat];exact Nat.mod_eq_of_lt (by omega)
 have e2:(BitVec.ofInt 32 (1:Int)).toNat=1:=by decide
 show IntKind.u32.wrap ((BitVec.ofInt 32 (a:Int) &&& BitVec.ofInt 32 (1:Int)).toNat:Int)=_;rw [BitVec.toNat_and,e1,e2,Nat.and_one_is_mod];have:IntKind.u32.wrap ((a % 2:Nat):Int)=((a % 2:Nat):Int):=by
  simp only [IntKind.wrap,IntKind.bits,IntKind.signed];simp;omega
 rw [this];omega
theorem awY {x:Int} (h0:0<=x) (h1:x<=4294967295):IntKind.wrap .u32 x=x:=by
 simp only [IntKind.wrap,IntKind.bits,IntKind.signed];simp;omega
def stp (x:Int):Int:=if x % 2=1 then bits .xor .u32 (x / 2) 3558460437 else x / 2
theorem aa9 {x:Int} (h0:0<=x) (h1:x<=4294967295):0<=stp x/\stp x<=4294967295:=by
 unfold stp;split
 ·exact ⟨ajA _ _ _,ajB _ _ _⟩
 ·omega
def it8:Nat->Int->Int
 | 0,v=>v
 | k+1,v=>it8 k (stp v)
theorem ajC:∀(k:Nat) {x:Int},0<=x->x<=4294967295->0<=it8 k x/\it8 k x<=4294967295
 | 0,_,h0,h1=>⟨h0,h1⟩
 | k+1,x,h0,h1=>ajC k (aa9 h0 h1).1 (aa9 h0 h1).2
theorem auz {F:(Int × Int->ah Int)->Int × Int->ah Int} (v:Int) (h0:0<=v) (h1:v<=4294967295)
  (hF:∀self (x:Int) (i:Nat),0<=x->x<=4294967295->i<8->F self (x,(i:Int))=self (stp x,((i+1:Nat):Int)))
  (hE:∀self x,F self (x,((8:Nat):Int))=some x):aU BIG F (v,0)=some (it8 8 v):=by
 have L:=qI (F:=F) (fun x=>∃i:Nat,x.2=(i:Int)/\i<=8/\0<=x.1/\x.1<=4294967295) (fun x=>8-x.2.toNat) (fun x=>it8 (8-x.2.toNat) x.1) (fun self x ⟨i,a1,a2,a3,a4⟩ hs=>by
  obtain ⟨x,j⟩:=x
  simp only at a1 a3 a4 hs ⊢
  subst a1
  by_cases hi:i<8
  ·rw [hF self x i a3 a4 hi,hs (stp x,((i+1:Nat):Int)) ⟨i+1,rfl,hi,(aa9 a3 a4).1,(aa9 a3 a4).2⟩ (by simp;omega)]
   simp only [eH]
   rw [show 8-i=(8-(i+1))+1 from by omega];rfl
  ·have:i=8:=by omega
   subst this
   rw [hE];rfl) (n:=BIG) (x:=(v,0)) (by show 8-0<BIG;decide) ⟨0,rfl,by omega,h0,h1⟩
 exact L
def smS (s:Int) (b:UInt8):Int:=it8 8 (bits .xor .u32 s (b.toNat:Int))
def smT (s:Int) (T:aa UInt8):Int:=T.foldl smS s
theorem arc (s:Int) (T:aa UInt8) (h0:0<=s) (h1:s<=4294967295) (hl:T.length<=2097152):LQ (s,BA T)=some (smT s T,()):=by
 have hm:maxLen=9223372036854775807:=by decide
 show LP BIG _=_;rw [aqB,bE];rw [jZ T (by omega) (fun _ (x:Int)=>0<=x/\x<=4294967295) smS id ⟨h0,h1⟩ (fun i x b _ h=>ajC 8 (ajA _ _ _) (ajB _ _ _))]
 ·rfl
 ·intro self x i b hb h;have hi:=(bn hb).1;simp only [show ((i:Int)<(T.length:Int)) from by omega,decide_true,au];have:=b.toNat_lt;rw [aJ hi,aa2,hb,af,awY (by omega) (by omega),auz _ (ajA _ _ _) (ajB _ _ _)]
  ·rw [af,dK (by omega)];rfl
  ·intro self x i a0 a1 a2;simp only [show ((i:Int)<8) from by omega,decide_true,au];rw [aEe x a0 a1,dK (by omega),show Int.fdiv x (2 ^ (Nat.min (Int.toNat (1:Int)) (IntKind.bits .u32)))=x / 2 from by
    show Int.fdiv x (2 ^ 1)=_
    rw [Int.fdiv_eq_ediv_of_nonneg _ (by omega)];rfl]
   unfold stp;by_cases hx:x % 2=1
   ·rw [ak hx,if_pos hx];rfl
   ·rw [aD hx,if_neg hx];rfl
  ·intro self x;rfl
 ·intro self x h;simp
theorem ard (s:Int) (T:aa UInt8) (h0:0<=s) (h1:s<=4294967295) (hl:T.length<=2097152):Lx (s,BA T)=some (smT s T,()):=by
 have hm:maxLen=9223372036854775807:=by decide
 show Lv BIG _=_;rw [aqk,bE];rw [jZ T (by omega) (fun _ (x:Int)=>0<=x/\x<=4294967295) smS id ⟨h0,h1⟩ (fun i x b _ h=>ajC 8 (ajA _ _ _) (ajB _ _ _))]
 ·rfl
 ·intro self x i b hb h;have hi:=(bn hb).1;simp only [show ((i:Int)<(T.length:Int)) from by omega,decide_true,au];have:=b.toNat_lt;rw [aJ hi,aa2,hb,af,awY (by omega) (by omega),auz _ (ajA _ _ _) (ajB _ _ _)]
  ·rw [af,dK (by omega)];rfl
  ·intro self x i a0 a1 a2;simp only [show ((i:Int)<8) from by omega,decide_true,au];rw [abO a0,aoC a0,awY (by omega) (by omega),dK (by omega)];unfold stp;by_cases hx:x % 2=1
   ·rw [ak hx,if_pos hx];rfl
   ·rw [aD hx,if_neg hx];rfl
  ·intro self x;rfl
 ·intro self x h;simp
theorem awZ (T:aa UInt8) (hl:T.length<=2097152):Wp (BA T)=some (smT 4294967295 T,()):=by
 show Wo BIG _=_;rw [awN,arc _ T (by omega) (by omega) hl];rfl
theorem aw0 (T:aa UInt8) (hl:T.length<=2097152):Wi (BA T)=some (smT 4294967295 T,()):=by
 show Wh BIG _=_;rw [awG,ard _ T (by omega) (by omega) hl];rfl
def Mq (x:Int):aa UInt8:=[Int.fdiv x (2 ^ (Nat.min (Int.toNat (24:Int)) (IntKind.bits .u32))),Int.fdiv x (2 ^ (Nat.min (Int.toNat (16:Int)) (IntKind.bits .u32))),Int.fdiv x (2 ^ (Nat.min (Int.toNat (8:Int)) (IntKind.bits .u32))),x].map eB
theorem anO (x:Int):dW ([IntKind.wrap .u8 (Int.fdiv x (2 ^ (Nat.min (Int.toNat (24:Int)) (IntKind.bits .u32)))),IntKind.wrap .u8 (Int.fdiv x (2 ^ (Nat.min (Int.toNat (16:Int)) (IntKind.bits .u32)))),IntKind.wrap .u8 (Int.fdiv x (2 ^ (Nat.min (Int.toNat (8:Int)) (IntKind.bits .u32)))),IntKind.wrap .u8 (x)])=BA (Mq x):=WE [Int.fdiv x (2 ^ (Nat.min (Int.toNat (24:Int)) (IntKind.bits .u32))),Int.fdiv x (2 ^ (Nat.min (Int.toNat (16:Int)) (IntKind.bits .u32))),Int.fdiv x (2 ^ (Nat.min (Int.toNat (8:Int)) (IntKind.bits .u32))),x]
theorem sG (x:Int):(Mq x).length=4:=rfl
def zf (T:aa UInt8):ah (aa UInt8):=if aS (T.length:Int) 1 9000 then some ((vB T.length++Mq (smT 4294967295 T))++T) else none
def txR:ah (aa UInt8)->ByteArray × Bool
 | some s=>(BA s,true)
 | none=>(BA [],false)
theorem WJ (T:aa UInt8) (hl:T.length<=2097152):Ab (BA T)=some (txR (zf T),()):=by
 show Wq BIG _=_;rw [awP,bE,nR,af];unfold zf;cases hb:aS (T.length:Int) 1 9000 with
 | false=>rfl
 | true=>
  rw [aH] at hb;have hv:=eO (v:=T.length) (by omega);simp only [bK,az,if_true];rw [nS,af,show aS (T.length:Int) 0 1000000000=true from aH.2 (by omega),if_pos rfl,eH,awZ T hl,af];simp only [anO,iX,bE,bq,sG];rw [ak (show (vB T.length).length+4<=4611686018427387904 from by omega),ak (show (vB T.length).length+4+T.length<=4611686018427387904 from by omega)];rfl
theorem aw1 (T:aa UInt8) (hl:T.length<=2097152):Wl (BA T)=some (txR (zf T),()):=by
 show Wj BIG _=_;rw [awI,bE,dz,af];unfold zf;cases hb:aS (T.length:Int) 1 9000 with
 | false=>rfl
 | true=>
  rw [aH] at hb;have hv:=eO (v:=T.length) (by omega);have h4:∀x,LB x=some (BA (Mq x),()):=by
   intro x;show LA BIG _=_;rw [aqm,anO];rfl
  simp only [bK,az,if_true];rw [kv T.length (by omega),af,aw0 T hl,af,h4,af];simp only [iX,bE,bq,sG];rw [ak (show (vB T.length).length+4<=4611686018427387904 from by omega),ak (show (vB T.length).length+4+T.length<=4611686018427387904 from by omega)];rfl
abbrev Ra:=Int × ByteArray × ByteArray × ByteArray
def laR (n:Int) (r:Rc):aa Ra × Bool:=match jv n r with
 | some t=>([((1:Int),(ByteArray.mk #[108,111,103]),(txR (zf t)).1,ByteArray.empty),((2:Int),(ByteArray.mk #[108,111,103]),ByteArray.empty,ByteArray.empty)],true)
 | none=>([],false)
theorem aw2 {n:Int} {r:Rc} {t:aa UInt8} (h:jv n r=some t):∃u,zf t=some u:=by
 have:=Ah h;unfold zf;rw [show aS (t.length:Int) 1 9000=true from aH.2 (by omega)];exact ⟨_,rfl⟩
theorem arf (d:aa (ByteArray × ByteArray × Int)) (n:Int) (r:Rc) (h1:r.2.2.2.2.2.2.2.2.1.length<=1048576) (h2:r.2.2.2.2.2.2.2.2.2.1.length<=1048576) (h3:r.2.2.2.2.2.2.2.2.2.2.2.2.1.length<=1048576):LD (d,n,r)=some (laR n r,()):=by
 show LC BIG _=_;rw [aqo,arb n r h1 h2 h3,af];unfold laR;cases h:jv n r with
 | none=>rfl
 | some t=>
  have:=Ah h;simp only [kG,bK,az];rw [aw1 t (by omega)];rfl
theorem arh (d:aa (ByteArray × ByteArray × Int)) (n:Int) (r:Rc) (h1:r.2.2.2.2.2.2.2.2.1.length<=1048576) (h2:r.2.2.2.2.2.2.2.2.2.1.length<=1048576) (h3:r.2.2.2.2.2.2.2.2.2.2.2.2.1.length<=1048576):Mf (d,n,r)=some (laR n r,()):=by
 show Me BIG _=_;rw [aqS,aa4 n r h1 h2 h3,af];unfold laR;cases h:jv n r with
 | none=>
  have e:Ab (BA [])=some (txR (zf []),()):=WJ [] (by simp);simp only [kG];rw [e];rfl
 | some t=>
  have:=Ah h;obtain ⟨u,hu⟩:=aw2 h;simp only [kG];rw [WJ t (by omega),hu];rfl
abbrev Fl:=ByteArray × ByteArray × Int
def uFr (T:aa UInt8) (a m v:Nat):aa UInt8:=(T.drop (a+m+4)).take v
def fA (T:aa UInt8) (a:Nat):ah (aa UInt8 × Nat):=
 match zb (T.drop a) with
 | none=>none
 | some (v,m)=>if (1<=v/\v<=9000)/\a+m+4+v<=T.length/\zf (uFr T a m v)=some ((T.drop a).take (m+4+v)) then some (uFr T a m v,a+m+4+v) else none
def faR:ah (aa UInt8 × Nat)->ByteArray × Int × Bool
 | some (U,b)=>(BA U,(b:Int),true)
 | none=>(BA [],0,false)
theorem auA {T:aa UInt8} {a m v:Nat} (h:a+m+4+v<=T.length):(uFr T a m v).length=v:=by
 unfold uFr;rw [eU,kX];omega
theorem ari (T:aa UInt8) (a:Nat) (ha:a<=T.length) (hl:T.length<=20000):LV (BA T,(a:Int))=some (faR (fA T a),()):=by
 show LU BIG _=_;rw [aqD,Mm T _ (by omega),bE];unfold rvR fA;rw [show aS (a:Int) 0 (T.length:Int)=true from aH.2 (by omega),if_pos rfl,eH];cases hr:zb (T.drop a) with
 | none=>rfl
 | some x=>
  obtain ⟨v,m⟩:=x;have bF:=Fq hr;rw [kX] at bF;simp only [af,bK,az,nR];cases hv:aS (v:Int) 1 9000 with
  | false=>
   rw [if_neg]
   ·rfl
   ·intro h;have:aS (v:Int) 1 9000=true:=aH.2 (by omega);rw [hv] at this;cases this
  | true=>
   rw [aH] at hv;simp only [bK,az,af];rw [wr (n:=(T.length:Int)-((a:Int)+(m:Int))) (by omega) (by omega),wr (n:=(4:Int)+(v:Int)) (by omega) (by omega)];by_cases hc:a+m+4+v<=T.length
   ·rw [aD (by omega),az];rw [wr (n:=(a:Int)+(m:Int)+4) (by omega) (by omega),wr (n:=(a:Int)+(m:Int)+4+(v:Int)) (by omega) (by omega),ak (by omega),au,ak (by omega)];simp only [au,Q6];rw [show ((a:Int)+(m:Int)+4+(v:Int)).toNat=a+m+4+v from by omega,show ((a:Int)+(m:Int)+4).toNat=a+m+4 from by omega,show a+m+4+v-(a+m+4)=v from by omega,show a+m+4+v-a=m+4+v from by omega];have hU:=auA hc;have hf:Ab (BA (uFr T a m v))=some (txR (zf (uFr T a m v)),()):=WJ _ (by omega);unfold uFr at hf hU ⊢;rw [hf,af];have hs:∃u,zf ((T.drop (a+m+4)).take v)=some u:=by
     unfold zf;rw [hU,show aS (v:Int) 1 9000=true from aH.2 (by omega)];exact ⟨_,rfl⟩
    obtain ⟨u,hu⟩:=hs;rw [hu];simp only [txR,pI];by_cases he:u=(T.drop a).take (m+4+v)
    ·rw [if_pos ⟨by omega,hc,by rw [he]⟩,he];simp only [beq_self_eq_true,bK,az,faR];rw [show ((a+m+4+v:Nat):Int)=(a:Int)+(m:Int)+4+(v:Int) from by omega]
    ·have hb:(u == (T.drop a).take (m+4+v))=false:=beq_eq_false_iff_ne.2 he;rw [if_neg (fun h=>he (Aq h.2.2)),hb];rfl
   ·rw [ak (by omega),if_neg (fun h=>hc h.2.1)];rfl
theorem aba {T:aa UInt8} {a:Nat} {U:aa UInt8} {b:Nat} (h:fA T a=some (U,b)):a<b/\b<=T.length/\zf U=some ((T.drop a).take (b-a))/\1<=U.length/\U.length<=9000:=by
 unfold fA at h;cases hr:zb (T.drop a) with
 | none=>rw [hr] at h;cases h
 | some x=>
  obtain ⟨v,m⟩:=x;rw [hr] at h;simp only at h;split at h
  ·rename_i hc;have h:=Aq h;have h1:=congrArg Prod.fst h;have h2:=congrArg Prod.snd h;simp only at h1 h2;subst h1 h2;have:=auA hc.2.1;refine ⟨by omega,hc.2.1,?_,by omega,by omega⟩;rw [show a+m+4+v-a=m+4+v from by omega];exact hc.2.2
  ·cases h
def Rb (T:aa UInt8):Nat->Nat->aa (aa UInt8) × Nat
 | 0,a=>([],a)
 | k+1,a=>match fA T a with
  | some (U,b)=>(U::(Rb T k b).1,(Rb T k b).2)
  | none=>([],a)
theorem auB (T:aa UInt8):∀(k k' a:Nat),T.length+1-a<=k->T.length+1-a<=k'->a<=T.length->Rb T k a=Rb T k' a
 | 0,_,a,h,_,ha=>by omega
 | _+1,0,a,_,h,ha=>by omega
 | k+1,k'+1,a,h,h',ha=>by
  unfold Rb;cases hf:fA T a with
  | none=>rfl
  | some x=>
   obtain ⟨U,b⟩:=x;have:=aba hf;simp only;rw [auB T k k' b (by omega) (by omega) this.2.1]
def uf (T:aa UInt8) (a:Nat):aa (aa UInt8) × Nat:=Rb T (T.length+1) a
theorem anQ {T:aa UInt8} {a:Nat} (h:fA T a=none):uf T a=([],a):=by
 unfold uf Rb;rw [h]
theorem anR {T:aa UInt8} {a b:Nat} {U:aa UInt8} (h:fA T a=some (U,b)):uf T a=(U::(uf T b).1,(uf T b).2):=by
 have:=aba h;unfold uf;rw [show Rb T (T.length+1) a=(U::(Rb T T.length b).1,(Rb T T.length b).2) from by
  rw [Rb,h]]
 rw [auB T T.length (T.length+1) b (by omega) (by omega) this.2.1]
theorem aCg {T:aa UInt8} {a:Nat} (h:T.length<=a):fA T a=none:=by
 cases hf:fA T a with
 | none=>rfl
 | some x=>
  obtain ⟨U,b⟩:=x;have:=aba hf;omega
def abb (U:aa UInt8):Nat:=match zf U with|some u=>u.length|none=>0
def G6 (n:Int):aa (aa UInt8)->aa Rc × Nat
 | []=>([],0)
 | U::L=>match rcD n U with
  | some r=>(r::(G6 n L).1,abb U+(G6 n L).2)
  | none=>([],0)
theorem AR (n:Int) (T:aa UInt8):kQ (n,BA T)=some (if T.length<=20000 then ((G6 n (uf T 0).1).1,((G6 n (uf T 0).1).2:Int)) else ([],0),()):=by
 have hm:maxLen=9223372036854775807:=by decide
 show IE BIG _=_;rw [alO,bE];by_cases hl:T.length<=20000
 ·rw [if_pos hl,aD (by omega),az];refine (qI (B:=(aa Rc × Int) × Unit) (fun (x:aa Rc × Int)=>∃a:Nat,x.2=(a:Int)/\a<=T.length/\x.1.length<=a) (fun x=>T.length-x.2.toNat) (fun x=>((x.1++(G6 n (uf T x.2.toNat).1).1,x.2+((G6 n (uf T x.2.toNat).1).2:Int)),())) (fun self x ⟨a,a1,a2,a3⟩ hs => ?_) (n:=BIG) (x:=([],0)) (by simp [BIG];omega) ⟨0,rfl,by omega,by simp⟩).trans ?_
  ·obtain ⟨out,p⟩:=x;simp only at a1 a2 a3 hs ⊢;subst a1;rw [ari T a a2 hl,af,eH];cases hf:fA T a with
   | none=>
    have e:Dz (n,BA [])=some (Vg (rcD n []),()):=aa7 n [] (by simp);simp only [faR];rw [e,anQ hf];simp [G6]
   | some x=>
    obtain ⟨U,b⟩:=x;have bF:=aba hf;simp only [faR];rw [aa7 n U (by omega),anR hf];simp only [af,bK,az,G6];cases hr:rcD n U with
    | none=>simp [Vg]
    | some r=>
     have yS:abb U=b-a:=by
      unfold abb;rw [bF.2.2.1];simp only [eU,kX];omega
     simp only [Vg,bK,az];rw [ak (by simp only [bA,bB];omega),au];refine (hs (out++[r],(b:Int)) ⟨b,rfl,bF.2.1,by simp;omega⟩ (by simp only;omega)).trans ?_;simp only [eH,yS,fJ,Ap];rw [show (b:Int)+((G6 n (uf T b).1).2:Int)=(a:Int)+((b-a+(G6 n (uf T b).1).2:Nat):Int) from by omega]
  ·simp
 ·rw [if_neg hl,ak (by omega)];rfl
def rdR (n:Int) (T:aa UInt8):aa Rc × Int:=if T.length<=20000 then ((G6 n (uf T 0).1).1,((G6 n (uf T 0).1).2:Int)) else ([],0)
def fQ (a:aa Fl) (i:Nat) (y:Fl):Bool:=aS (y.1.size:Int) 1 8&&(decide (y.2.1.size<=20000)&&(aS y.2.2 0 (y.2.1.size:Int)&&(if i=0 then true else Op.bytesLess (a.getD (i-1) (ByteArray.empty,ByteArray.empty,0)).1.toList y.1.toList)))
def fiP (a:aa Fl) (i:Nat):Bool:=fQ a i (a.getD i (ByteArray.empty,ByteArray.empty,0))
abbrev dkP (a:List Fl):Prop:=∀i,i<a.length->fiP a i=true
def NR (a:aa Fl):Bool:=if dkP a then decide ((a.length:Int)<=30) else false
theorem agH {a:aa Fl} {i:Nat} {y:Fl} (h:a[i]?=some y):fiP a i=fQ a i y:=by unfold fiP;rw [gD h]
theorem Mr (b:ByteArray):tO b=some (aS (b.size:Int) 1 8,()):=by
 show LF BIG _=_;rw [aqr,dz];rfl
theorem auC (a : aa Fl) (hl : a.length ≤ 1048576) (self : Int → ah (Unit ⊕ Bool)) (b : Bool) (i : Nat) (y : Fl) (hy : a[i]? = some y) {c1 c2 : ah (Bool × Unit)} (h1 : c1 = some (aS (y.1.size : Int) 1 8, ())) (h2 : c2 = some (aS y.2.2 0 (y.2.1.size : Int), ())) :
    Option.bind (Option.bind (Option.bind c1 fun r4 =>
       bif !r4.1 then
        some true
       else bif decide ((20000 : Int) < (y.2.1.size : Int)) then
        some true
       else Option.bind c2 fun r5 =>
       bif !r5.1 then
        some true
       else bif decide ((0 : Int) < (i : Int)) then
        bnd a.length (IntKind.wrap .i64 ((i : Int) - (1 : Int))) fun n6 =>
        Option.bind a[n6]? fun y7 =>
        some (!Op.bytesLess y7.1.toList y.1.toList)
       else some false : ah (Bool)) fun x8 =>
      bif x8 then
       some (Sum.inr b)
      else some (Sum.inl ()) : ah ((Unit) ⊕ (Bool))) (fun y => match y with
     | .inl x9 =>
      self (IntKind.wrap .i64 ((i : Int) + (1 : Int)))
     | .inr x9 =>
      some (Sum.inr x9)) = if fiP a i then self ((i + 1 : Nat) : Int) else some (.inr b) := by
  have hm : maxLen = 9223372036854775807 := by decide
  have hi := (bn hy).1;rw [agH hy, h1, h2, dK (by omega)];unfold fQ;cases aS (y.1.size : Int) 1 8 with
  | false => simp
  | true =>
    by_cases c2 : (20000 : Int) < (y.2.1.size : Int)
    · rw [ak c2, aD (show ¬ y.2.1.size ≤ 20000 from by omega)]; simp
    · rw [aD c2, ak (show y.2.1.size ≤ 20000 from by omega)]
      cases aS y.2.2 0 (y.2.1.size : Int) with
      | false => simp
      | true =>
        cases i with
        | zero => simp
        | succ j =>
          have hj : a[j]? = some (a[j]'(by omega)) := aZ (by omega);rw [ak (show (0 : Int) < ((j + 1 : Nat) : Int) from by omega), show (((j + 1 : Nat) : Int) - 1) = (j : Int) from by omega, wr (n := (j : Int)) (by omega) (by omega)];simp only [af, bK, az, au, gz, Nat.succ_ne_zero, if_false, Nat.add_sub_cancel];rw [aJ (by omega), hj, gD hj];simp only [af];cases Op.bytesLess _ y.1.toList <;> simp
theorem afp (a:aa Fl) (hl:a.length<=1048576):Qr a=some (NR a,()):=by
 have hm:maxLen=9223372036854775807:=by decide
 show Qq BIG _=_;rw [at5,ni a (by omega) (fiP a) false]
 ·unfold NR;split<;>rfl
 ·intro self i y hy;have hi:=(bn hy).1;simp only [show ((i:Int)<(a.length:Int)) from by omega,decide_true,au];rw [aJ hi,hy,af];refine Eq.trans ?_ (auC a hl self false i y hy (nR _ _ _) (nR _ _ _));rfl
 ·intro self;simp
theorem mh (a:aa Fl) (hl:a.length<=1048576):sw a=some (NR a,()):=by
 have hm:maxLen=9223372036854775807:=by decide
 show Qm BIG _=_;rw [atU];by_cases h30:(a.length:Int)<=30
 ·rw [aD (by omega),az,ni a (by omega) (fiP a) false]
  ·unfold NR;split
   ·rw [ak h30];rfl
   ·rfl
  ·intro self i y hy;have hi:=(bn hy).1;simp only [show ((i:Int)<(a.length:Int)) from by omega,decide_true,au];rw [aJ hi,hy,af];refine Eq.trans ?_ (auC a hl self false i y hy (Mr _) (dz _ _ _));rfl
  ·intro self;simp
 ·rw [ak (by omega),au];unfold NR;rw [aD h30];split<;>rfl
def fI (a:aa Fl) (b:ByteArray):Int:=if a.findIdx (fun y=>y.1.toList == b.toList)<a.length then (a.findIdx (fun y=>y.1.toList == b.toList):Int) else -1
theorem Re (a:aa Fl) (b:ByteArray) (hl:a.length<=1048576):GH (a,b)=some (fI a b,()):=by
 have hm:maxLen=9223372036854775807:=by decide
 show Qs BIG _=_;rw [at7,ajy a (by omega) (fun y=>y.1.toList == b.toList)]
 ·unfold fI;split<;>rfl
 ·intro self i y hy;have hi:=(bn hy).1;simp only [show ((i:Int)<(a.length:Int)) from by omega,decide_true,au];rw [aJ hi,hy,af,dK (by omega)];cases y.1.toList == b.toList<;>rfl
 ·intro self;simp
theorem vX (a:aa Fl) (b:ByteArray) (hl:a.length<=1048576):LJ (a,b)=some (fI a b,()):=by
 have hm:maxLen=9223372036854775807:=by decide
 show Wm BIG _=_;rw [awK,ajy a (by omega) (fun y=>y.1.toList == b.toList)]
 ·unfold fI;split<;>rfl
 ·intro self i y hy;have hi:=(bn hy).1;simp only [show ((i:Int)<(a.length:Int)) from by omega,decide_true,au];rw [aJ hi,hy,af,dK (by omega)];cases y.1.toList == b.toList<;>rfl
 ·intro self;simp
def JP (a:aa Fl) (b:ByteArray):ByteArray × Bool:=if a.findIdx (fun y=>y.1.toList == b.toList)<a.length then ((a.getD (a.findIdx (fun y=>y.1.toList == b.toList)) (ByteArray.empty,ByteArray.empty,0)).2.1,true) else (ByteArray.mk #[],false)
theorem afq (a:aa Fl) (b:ByteArray) (hl:a.length<=1048576):Qv (a,b)=some (JP a b,()):=by
 show Qu BIG _=_;rw [aub,Re a b hl,af];unfold fI JP;by_cases h:a.findIdx (fun y=>y.1.toList == b.toList)<a.length
 ·simp only [if_pos h];rw [aD (by omega),az,aJ h,aZ h,gD (aZ h)];rfl
 ·simp only [if_neg h];rfl
theorem Rf (a:aa Fl) (b:ByteArray) (hl:a.length<=1048576):BG (a,b)=some (JP a b,()):=by
 show QU BIG _=_;rw [auh,vX a b hl,af];unfold fI JP;by_cases h:a.findIdx (fun y=>y.1.toList == b.toList)<a.length
 ·simp only [if_pos h];rw [aD (by omega),az,aJ h,aZ h,gD (aZ h)];rfl
 ·simp only [if_neg h];rfl
theorem abd {S α:Type} (p:α->Bool) (f:S->α->S):∀(l:aa α) (s:S),fM (fun s y=>if p y=true then some (f s y) else none) s l=if l.all p=true then some (l.foldl f s) else none
 | [],s=>by simp [fM]
 | y::l,s=>by
  rw [fM];cases hp:p y with
  | false=>simp [hp]
  | true=>simp only [if_true,af,abd p f l,DV,hp,gz,iR]
end Go.Fw
