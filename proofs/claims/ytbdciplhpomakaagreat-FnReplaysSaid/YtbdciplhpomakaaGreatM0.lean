/- What the given functions come to. No conditions. -/
import Derived.Test.YtbdciplhpomakaaGreatX3
import Derived.IntWalk
set_option linter.unusedSectionVars false
namespace Go.Fw
theorem pR {X B:Type} {F:(X->ah B)->X->ah B} (I:X->Prop) (μ:X->Nat) (Q:X->B->Prop)
  (h:∀self x,I x->(∀y,I y->μ y<μ x->∃b,self y=some b/\Q y b)->∃b,F self x=some b/\Q x b):∀{n:Nat} {x:X},μ x<n->I x->∃b,aJ n F x=some b/\Q x b
 | 0,_,hn,_=>absurd hn (Nat.not_lt_zero _)
 | n+1,x,hn,hi=>h (it F n) x hi fun _ hy hm=>pR I μ Q h (n:=n) (by omega) hy
theorem ky {X B:Type} {F:(X->ah B)->X->ah B} (I:X->Prop) (μ:X->Nat) (R:X->B)
  (h:∀self x,I x->(∀y,I y->μ y<μ x->self y=some (R y))->F self x=some (R x)) {n:Nat} {x:X} (hn:μ x<n) (hi:I x):aJ n F x=some (R x):=by
 obtain ⟨b,h1,h2⟩:=pR (F:=F) I μ (fun x b=>b=R x) (fun self x hx hs=>⟨_,h self x hx fun y hy hm=>by obtain ⟨b,h1,h2⟩:=hs y hy hm;rw [h1,h2],rfl⟩) hn hi;rw [h1,h2]
theorem wr {n:Int} (h : -9223372036854775808<=n) (h':n<=9223372036854775807):IntKind.wrap .i64 n=n:=by
 rw [IntKind.wrap_i64];omega
theorem bT {i:Nat} (h:i<maxLen):IntKind.wrap .i64 ((i:Int)+1)=((i+1:Nat):Int):=by
 have:maxLen=9223372036854775807:=by decide
 rw [wr (by omega) (by omega)];rfl
theorem bV {B:Type} {len:Nat} {i:Int} {k:Nat->ah B} (h:0<=i) (h':i<len):bnd len i k=k i.toNat:=by
 unfold bnd;rw [if_pos ⟨h,by omega⟩]
theorem aF {B:Type} {len:Nat} {i:Nat} {k:Nat->ah B} (h':i<len):bnd len (i:Int) k=k i:=by
 rw [bV (XF i) (by omega)];simp
theorem kY {α B:Type} (a:aa α) (hl:a.length<18446744073709551616) {F:(Int->ah (Unit ⊕ B))->Int->ah (Unit ⊕ B)} (p:Nat->Bool) (b:B)
  (hF:∀self (i:Nat) y,a[i]?=some y->F self (i:Int)=if p i then self ((i+1:Nat):Int) else some (.inr b))
  (hE:∀self,F self (a.length:Int)=some (.inl ())):aJ BIG F 0=some (if ∀i,i<a.length->p i=true then .inl () else .inr b):=by
 have hh:=pR (F:=F) (fun x=>∃i:Nat,x=i/\i<=a.length) (fun x=>a.length-x.toNat) (fun x r=>((∀i:Nat,x<=(i:Int)->i<a.length->p i=true)/\r = .inl ())\/((∃i:Nat,i<a.length/\p i=false)/\r = .inr b)) (fun self x ⟨i,h1,h2⟩ hs => ?_) (n:=BIG) (x:=0) (by simp;exact hl) ⟨0,rfl,by simp⟩
 ·obtain ⟨r,hr,hq⟩:=hh;rw [hr];congr 1;rcases hq with ⟨h1,rfl⟩|⟨⟨i,h1,h2⟩,rfl⟩
  ·rw [if_pos fun i hi=>h1 i (by omega) hi]
  ·rw [if_neg];intro h;rw [h i h1] at h2;cases h2
 ·subst h1;by_cases hi:i<a.length
  ·rw [hF self i a[i] (aR hi)];cases hp:p i with
   | true=>
    rw [if_pos rfl];obtain ⟨r,hr,hq⟩:=hs _ ⟨i+1,rfl,hi⟩ (by simp;omega);refine ⟨r,hr,?_⟩;rcases hq with ⟨h1,rfl⟩|h1
    ·refine .inl ⟨fun k hk nY => ?_,rfl⟩;by_cases h:k=i
     ·subst h;exact hp
     ·exact h1 k (by omega) nY
    ·exact .inr h1
   | false=>exact ⟨_,rfl,.inr ⟨⟨i,hi,hp⟩,rfl⟩⟩
  ·have:i=a.length:=by omega
   subst this;exact ⟨_,hE self,.inl ⟨fun k hk nY=>by omega,rfl⟩⟩
theorem afa:maxLen<18446744073709551616:=by decide
theorem aje {α B:Type} [DecidableEq α] (a b:aa α) (hl:a.length<=maxLen) (d9:a.length=b.length) {F:(Int->ah (Unit ⊕ B))->Int->ah (Unit ⊕ B)} (r:B)
  (hF:∀self (i:Nat) x y,a[i]?=some x->b[i]?=some y->F self (i:Int)=if x=y then self ((i+1:Nat):Int) else some (.inr r))
  (hE:∀self,F self (a.length:Int)=some (.inl ())):aJ BIG F 0=some (if a=b then .inl () else .inr r):=by
 rw [kY a (Nat.lt_of_le_of_lt hl afa) (fun i=>decide (a[i]?=b[i]?)) r (fun self i y hy => ?_) hE]
 ·congr 1;by_cases h:a=b
  ·subst h;simp
  ·rw [if_neg h,if_neg];intro h';apply h;apply XG fun i => ?_
   by_cases hi:i<a.length
   ·simpa using h' i hi
   ·rw [zP (by omega),zP (by omega)]
 ·have hi:=(aZ hy).1;have hb:b[i]?=some (b[i]'(by omega)):=aR (by omega);rw [hF self i y _ hy hb,hy,hb];simp
theorem jS {α S B:Type} (a:aa α) (hl:a.length<18446744073709551616) {F:(S × Int->ah B)->S × Int->ah B} (I:Nat->S->Prop) (st:S->α->S) (R:S->B) {s0:S} (h0:I 0 s0)
  (hI:∀i s y,a[i]?=some y->I i s->I (i+1) (st s y)) (hF:∀self s (i:Nat) y,a[i]?=some y->I i s->F self (s,(i:Int))=self (st s y,((i+1:Nat):Int)))
  (hE:∀self s,I a.length s->F self (s,(a.length:Int))=some (R s)):aJ BIG F (s0,0)=some (R (a.foldl st s0)):=by
 have:=ky (F:=F) (fun x=>∃i:Nat,x.2=i/\i<=a.length/\I i x.1) (fun x=>a.length-x.2.toNat) (fun x=>R ((a.drop x.2.toNat).foldl st x.1)) (fun self x ⟨i,h1,h2,h3⟩ hs => ?_) (n:=BIG) (x:=(s0,0)) (by simp;exact hl) ⟨0,rfl,by simp,h0⟩
 ·simpa using this
 ·obtain ⟨s,j⟩:=x;simp only at h1 h2 h3;subst h1;by_cases hi:i<a.length
  ·have hy:=aR hi;rw [hF self s i a[i] hy h3,hs _ ⟨i+1,rfl,hi,hI _ _ _ hy h3⟩ (by simp;omega)];simp only [il];rw [uU hi,gH]
  ·have:i=a.length:=by omega
   subst this;rw [hE self s h3];simp
theorem afZ {α:Type} {a t:aa α} {i:Nat} {z:α} (ht:t.length=a.length) (hi:i<a.length) (hz:t[i]?=some z):(t.take i++a.drop i).set i z=t.take (i+1)++a.drop (i+1):=by
 have jv:i<t.length:=by omega
 rw [aR jv,aN] at hz;subst hz;rw [List.set_append_right _ _ (by simp;omega),uU hi,show i-(t.take i).length=0 from by simp;omega,List.set_cons_zero,rC jv,lK];rfl
inductive Con (E:List (Int × Int)):Int->Int->Prop
 | refl (v:Int):Con E v v
 | fwd {u v w:Int}:Con E u v->(v,w)∈E->Con E u w
 | bwd {u v w:Int}:Con E u v->(w,v)∈E->Con E u w
theorem Con.trans {E:aa (Int × Int)} {u v w:Int} (h:Con E u v) (h':Con E v w):Con E u w:=by
 induction h' with
 | refl=>exact h
 | fwd _ he ih=>exact .fwd ih he
 | bwd _ he ih=>exact .bwd ih he
theorem Con.symm {E:aa (Int × Int)} {u v:Int} (h:Con E u v):Con E v u:=by
 induction h with
 | refl=>exact .refl _
 | fwd _ he ih=>exact Con.trans (.bwd (.refl _) he) ih
 | bwd _ he ih=>exact Con.trans (.fwd (.refl _) he) ih
theorem Con.mono {E E':aa (Int × Int)} (hE:∀e,e∈E->e∈E') {u v:Int} (h:Con E u v):Con E' u v:=by
 induction h with
 | refl=>exact .refl _
 | fwd _ he ih=>exact .fwd ih (hE _ he)
 | bwd _ he ih=>exact .bwd ih (hE _ he)
theorem Con.of {E:aa (Int × Int)} {u v:Int} (h:(u,v)∈E):Con E u v:=.fwd (.refl _) h
theorem Con.sub {E E':aa (Int × Int)} (hE:∀e,e∈E->Con E' e.1 e.2) {u v:Int} (h:Con E u v):Con E' u v:=by
 induction h with
 | refl=>exact .refl _
 | fwd _ he ih=>exact ih.trans (hE _ he)
 | bwd _ he ih=>exact ih.trans (hE _ he).symm
theorem Con.nil {u v:Int} (h:Con [] u v):u=v:=by
 induction h with
 | refl=>rfl
 | fwd _ he _=>cases he
 | bwd _ he _=>cases he
theorem Con.snoc {E:aa (Int × Int)} {a b u v:Int}:Con (E++[(a,b)]) u v↔Con E u v\/(Con E u a/\Con E b v)\/(Con E u b/\Con E a v):=by
 constructor
 ·intro h;induction h with
  | refl=>exact .inl (.refl _)
  | fwd _ he ih=>
   rcases bG.1 he with h1|h1
   ·rcases ih with h|⟨h,h'⟩|⟨h,h'⟩
    ·exact .inl (.fwd h h1)
    ·exact .inr (.inl ⟨h,.fwd h' h1⟩)
    ·exact .inr (.inr ⟨h,.fwd h' h1⟩)
   ·cases cK.1 h1;rcases ih with h|⟨h,h'⟩|⟨h,h'⟩
    ·exact .inr (.inl ⟨h,.refl _⟩)
    ·exact .inr (.inl ⟨h,.refl _⟩)
    ·exact .inl h
  | bwd _ he ih=>
   rcases bG.1 he with h1|h1
   ·rcases ih with h|⟨h,h'⟩|⟨h,h'⟩
    ·exact .inl (.bwd h h1)
    ·exact .inr (.inl ⟨h,.bwd h' h1⟩)
    ·exact .inr (.inr ⟨h,.bwd h' h1⟩)
   ·cases cK.1 h1;rcases ih with h|⟨h,h'⟩|⟨h,h'⟩
    ·exact .inr (.inr ⟨h,.refl _⟩)
    ·exact .inl h
    ·exact .inr (.inr ⟨h,.refl _⟩)
 ·have hm:∀{x y:Int},Con E x y->Con (E++[(a,b)]) x y:=fun h=>h.mono fun e he=>jl _ he
  have d9:Con (E++[(a,b)]) a b:=.of (jD _ (cK.2 rfl));rintro (h|⟨h,h'⟩|⟨h,h'⟩)
  ·exact hm h
  ·exact (hm h).trans (d9.trans (hm h'))
  ·exact (hm h).trans (d9.symm.trans (hm h'))
def oN (n:Nat) (E:aa (Int × Int)):Prop:=∀e,e∈E->0<=e.1/\e.1<n/\0<=e.2/\e.2<n
theorem Con.range {n:Nat} {E:aa (Int × Int)} (hE:oN n E) {u v:Int} (h:Con E u v) (hu:0<=u/\u<n):0<=v/\v<n:=by
 induction h with
 | refl=>exact hu
 | fwd _ he _=>exact ⟨(hE _ he).2.2.1,(hE _ he).2.2.2⟩
 | bwd _ he _=>exact ⟨(hE _ he).1,(hE _ he).2.1⟩
def Lab (n:Nat) (E:aa (Int × Int)) (l:aa Int):Prop:=
 l.length=n/\∀(v:Nat) (x:Int),l[v]?=some x->Con E v x/\0<=x/\∀u:Int,0<=u->Con E v u->x<=u
theorem Lab.le {n:Nat} {E:aa (Int × Int)} {l:aa Int} (h:Lab n E l) {v:Nat} {x:Int} (hx:l[v]?=some x):x<=v:=
 (h.2 v x hx).2.2 v (XF v) (.refl _)
theorem Lab.lt {n:Nat} {E:aa (Int × Int)} {l:aa Int} (h:Lab n E l) {v:Nat} {x:Int} (hx:l[v]?=some x):0<=x/\x<n:=by
 have h1:=h.le hx;have h2:=(aZ hx).1;have h3:=(h.2 v x hx).2.1;have h4:=h.1;omega
theorem Lab.iff {n:Nat} {E:aa (Int × Int)} {l:aa Int} (h:Lab n E l) {u v:Nat} {x y:Int} (hx:l[u]?=some x) (hy:l[v]?=some y):x=y↔Con E u v:=by
 have h1:=h.2 u x hx;have h2:=h.2 v y hy;constructor
 ·intro e;subst e;exact h1.1.trans h2.1.symm
 ·intro c;have a:=h1.2.2 y h2.2.1 (c.trans h2.1);have b:=h2.2.2 x h1.2.1 (c.symm.trans h1.1);omega
theorem Lab.self {n:Nat} {E:aa (Int × Int)} {l:aa Int} (h:Lab n E l) {v:Nat} {x:Int} (hx:l[v]?=some x):l[x.toNat]?=some x:=by
 have h1:=h.lt hx;have hi:x.toNat<l.length:=by rw [h.1];omega
 rw [aR hi];have h2:=h.2 v x hx;have hc:Con E (x.toNat:Int) v:=by rw [jF h1.1];exact h2.1.symm
 rw [(h.iff (aR hi) hx).2 hc]
theorem Lab.uniq {n:Nat} {E E':aa (Int × Int)} {l l':aa Int} (h:Lab n E l) (h':Lab n E' l') (hc:∀u v:Int,Con E u v↔Con E' u v):l=l':=by
 apply XG;intro i;by_cases hi:i<n
 ·have e1:l[i]?=some (l[i]'(by rw [h.1];exact hi)):=aR _;have e2:l'[i]?=some (l'[i]'(by rw [h'.1];exact hi)):=aR _;rw [e1,e2];have h1:=h.2 i _ e1;have h2:=h'.2 i _ e2;have a:=h1.2.2 _ h2.2.1 ((hc _ _).2 h2.1);have b:=h2.2.2 _ h1.2.1 ((hc _ _).1 h1.1);congr 1;omega
 ·rw [zP (by rw [h.1];omega),zP (by rw [h'.1];omega)]
def pU (n:Nat):aa Int:=(List.range n).map fun (i:Nat)=>(i:Int)
theorem Xb {n v:Nat} {x:Int} (h:(pU n)[v]?=some x):v<n/\x=v:=by
 have hi:=(aZ h).1;simp only [pU,dX,sJ] at hi;simp only [pU,kE,Rm hi,dx,aN] at h;exact ⟨hi,h.symm⟩
theorem vI (n:Nat):(pU n).length=n:=by simp [pU]
theorem Lab.zero (n:Nat):Lab n [] (pU n):=by
 refine ⟨vI n,fun v x h => ?_⟩;obtain ⟨_,rfl⟩:=Xb h;exact ⟨.refl _,XF v,fun u _ h=>by rw [h.nil];exact Int.le_refl _⟩
def unL (l:aa Int) (x y:Int):aa Int:=l.map fun z=>if z=(if y > x then y else x) then (if y<x then y else x) else z
theorem anL (l:aa Int) (x y:Int):(unL l x y).length=l.length:=by simp [unL]
theorem ajg (l:aa Int) (x:Int):unL l x x=l:=by
 unfold unL;conv=>rhs;rw [<-List.map_id l]
 apply Rl;intro z _;simp only [gt_iff_lt,Int.lt_irrefl,if_false,id];split<;>simp_all
theorem Lab.union {n:Nat} {E:aa (Int × Int)} {l:aa Int} (h:Lab n E l) {a b:Nat} {x y:Int} (hx:l[a]?=some x) (hy:l[b]?=some y):Lab n (E++[((a:Int),(b:Int))]) (unL l x y):=by
 refine ⟨by rw [anL,h.1],fun v z hz => ?_⟩;simp only [unL,kE,dh] at hz;obtain ⟨w,hw,hz⟩:=hz;have hax:=h.2 a x hx;have hby:=h.2 b y hy;have VG:=h.2 v w hw;have ew:∀{c:Nat} {t:Int},l[c]?=some t->(w=t↔Con E v c):=fun hc=>h.iff hw hc
 have hA:=ew hx;have hB:=ew hy;have d9:Con (E++[((a:Int),(b:Int))]) a b:=.of (jD _ (cK.2 rfl));have hm:∀{s t:Int},Con E s t->Con (E++[((a:Int),(b:Int))]) s t:=fun h=>h.mono fun e he=>jl _ he
 by_cases hxy:x=y
 ·subst hxy;have aCA:Con E a b:=(h.iff hx hy).1 rfl;have:z=w:=by
   subst hz;simp only [gt_iff_lt,Int.lt_irrefl,if_false];split<;>simp_all
  subst this;refine ⟨hm VG.1,VG.2.1,fun u hu hc => ?_⟩;apply VG.2.2 u hu;rcases Con.snoc.1 hc with h1|⟨h1,h2⟩|⟨h1,h2⟩
  ·exact h1
  ·exact h1.trans (aCA.trans h2)
  ·exact h1.trans (aCA.symm.trans h2)
 ·have key:∀u:Int,0<=u->Con (E++[((a:Int),(b:Int))]) v u->(w<=u)\/(w=x/\y<=u)\/(w=y/\x<=u):=by
   intro u hu hc;rcases Con.snoc.1 hc with h1|⟨h1,h2⟩|⟨h1,h2⟩
   ·exact .inl (VG.2.2 u hu h1)
   ·exact .inr (.inl ⟨hA.2 h1,hby.2.2 u hu h2⟩)
   ·exact .inr (.inr ⟨hB.2 h1,hax.2.2 u hu h2⟩)
  by_cases hwx:w=x
  ·have hva:=hA.1 hwx;subst hwx;by_cases bR:y > w
   ·rw [if_pos bR,if_neg (by omega)] at hz;subst hz;refine ⟨hm VG.1,VG.2.1,fun u hu hc => ?_⟩;rcases key u hu hc with h1|h1|h1<;>omega
   ·rw [if_neg bR,if_pos rfl,if_pos (by omega)] at hz;subst hz;refine ⟨(hm hva).trans (d9.trans (hm hby.1)),hby.2.1,fun u hu hc => ?_⟩;rcases key u hu hc with h1|h1|h1<;>omega
  ·by_cases hwy:w=y
   ·have hvb:=hB.1 hwy;subst hwy;by_cases bR:w > x
    ·rw [if_pos bR,if_pos rfl,if_neg (by omega)] at hz;subst hz;refine ⟨(hm hvb).trans (d9.symm.trans (hm hax.1)),hax.2.1,fun u hu hc => ?_⟩;rcases key u hu hc with h1|h1|h1<;>omega
    ·rw [if_neg bR,if_neg hwx] at hz;subst hz;refine ⟨hm VG.1,VG.2.1,fun u hu hc => ?_⟩;rcases key u hu hc with h1|h1|h1<;>omega
   ·rw [if_neg (by split<;>omega)] at hz;subst hz;refine ⟨hm VG.1,VG.2.1,fun u hu hc => ?_⟩;rcases key u hu hc with h1|h1|h1<;>omega
def unE (l:aa Int) (e:Int × Int):aa Int:=unL l (l.getD e.1.toNat 0) (l.getD e.2.toNat 0)
theorem R_ (l:aa Int) (e:Int × Int):(unE l e).length=l.length:=anL _ _ _
theorem Lab.unE {n:Nat} {E:aa (Int × Int)} {l:aa Int} (h:Lab n E l) {e:Int × Int} (he:0<=e.1/\e.1<n/\0<=e.2/\e.2<n):Lab n (E++[e]) (unE l e):=by
 have h1:e.1.toNat<l.length:=by rw [h.1];omega
 have h2:e.2.toNat<l.length:=by rw [h.1];omega
 have:=h.union (a:=e.1.toNat) (b:=e.2.toNat) (aR h1) (aR h2);rw [jF he.1,jF he.2.2.1] at this;unfold Go.Fw.unE;rw [dw,dw,aR h1,aR h2];exact this
theorem Lab.fold {n:Nat}:∀{D E:aa (Int × Int)} {l:aa Int},Lab n E l->oN n D->Lab n (E++D) (D.foldl Go.Fw.unE l)
 | [],E,l,h,_=>by simpa using h
 | e::D,E,l,h,hD=>by
  have:=Lab.fold (D:=D) (h.unE (hD e (dW ..))) fun x hx=>hD x (dQ _ hx)
  rw [gH];rwa [lK] at this
def labs (n:Nat) (E:aa (Int × Int)):aa Int:=E.foldl unE (pU n)
theorem kZ {n:Nat} {E:aa (Int × Int)} (h:oN n E):Lab n E (labs n E):=by
 have:=(Lab.zero n).fold h;simpa [labs] using this
theorem dU (n:Nat) (E:aa (Int × Int)):(labs n E).length=n:=by
 have:∀(E:aa (Int × Int)) (l:aa Int),(E.foldl unE l).length=l.length:=by
  intro E;induction E with
  | nil=>simp
  | cons e E ih=>intro l;rw [gH,ih,R_]
 rw [labs,this,vI]
def rlE (l:aa Int) (e:Int × Int):aa Int:=
 let x:=l.getD e.1.toNat 0
 let y:=l.getD e.2.toNat 0
 let l:=if x<y then l.set e.2.toNat x else l
 if y<x then l.set e.1.toNat y else l
theorem anM (l:aa Int) (e:Int × Int):(rlE l e).length=l.length:=by
 unfold rlE;simp only;split<;>split<;>simp
def lrnd (E:aa (Int × Int)) (l:aa Int):aa Int:=E.foldl rlE l
theorem ajh:∀(E:aa (Int × Int)) (l:aa Int),(lrnd E l).length=l.length
 | [],l=>rfl
 | e::E,l=>by show (lrnd E (rlE l e)).length=_;rw [ajh E,anM]
section
variable {n:Nat} {E:aa (Int × Int)} {L:aa Int}
def Dn (n:Nat) (E:aa (Int × Int)) (l:aa Int):Prop:=l.length=n/\∀(v:Nat) (x:Int),l[v]?=some x->Con E v x/\0<=x
theorem Dn.ge (hL:Lab n E L) {l:aa Int} (h:Dn n E l) {v:Nat} {x y:Int} (hx:l[v]?=some x) (hy:L[v]?=some y):y<=x:=
 (hL.2 v y hy).2.2 x (h.2 v x hx).2 (h.2 v x hx).1
theorem Dn.set {l:aa Int} (h:Dn n E l) {v:Nat} {x:Int} (hc:Con E v x) (h0:0<=x):Dn n E (l.set v x):=by
 refine ⟨by simp [h.1],fun u y hu => ?_⟩;rw [Cg] at hu;split at hu
 ·subst v;split at hu
  ·cases hu;exact ⟨hc,h0⟩
  ·cases hu
 ·exact h.2 u y hu
theorem getD_at {l:aa Int} {i:Nat} (h:i<l.length):l[i]?=some (l.getD i 0):=by
 rw [dw,aR h];rfl
theorem Dn.rlE (hL:Lab n E L) {l:aa Int} (h:Dn n E l) {e:Int × Int} (hm:e∈E) (he:0<=e.1/\e.1<n/\0<=e.2/\e.2<n) :
  Dn n E (rlE l e)/\(∀(v:Nat),(rlE l e).getD v 0<=l.getD v 0) /\
  (l.getD e.1.toNat 0=L.getD e.1.toNat 0->(rlE l e).getD e.2.toNat 0=L.getD e.2.toNat 0) /\
  (l.getD e.2.toNat 0=L.getD e.2.toNat 0->(rlE l e).getD e.1.toNat 0=L.getD e.1.toNat 0):=by
 obtain ⟨h1,h2,h3,h4⟩:=he;have i1:e.1.toNat<l.length:=by rw [h.1];omega
 have i2:e.2.toNat<l.length:=by rw [h.1];omega
 have j1:e.1.toNat<L.length:=by rw [hL.1];omega
 have j2:e.2.toNat<L.length:=by rw [hL.1];omega
 have c12:Con E (e.1.toNat:Int) (e.2.toNat:Int):=by
  rw [jF h1,jF h3];exact .of hm
 have FC:=(hL.iff (getD_at j1) (getD_at j2)).2 c12;have a1:=h.2 _ _ (getD_at i1);have a2:=h.2 _ _ (getD_at i2);have g1:=h.ge hL (getD_at i1) (getD_at j1);have g2:=h.ge hL (getD_at i2) (getD_at j2);have gs:∀(i:Nat) (z:Int) (v:Nat),i<l.length->(l.set i z).getD v 0=if i=v then z else l.getD v 0:=by
  intro i z v hi;rw [dw,Cg];split
  ·subst v;simp
  ·rw [dw]
 unfold Go.Fw.rlE;simp only;by_cases bR:l.getD e.1.toNat 0<l.getD e.2.toNat 0
 ·rw [if_pos bR,if_neg (by omega)];refine ⟨h.set (c12.symm.trans a1.1) a1.2,fun v => ?_,fun hd => ?_,fun hd => ?_⟩
  ·rw [gs _ _ _ i2];split
   ·subst v;omega
   ·exact Int.le_refl _
  ·rw [gs _ _ _ i2,if_pos rfl];omega
  ·omega
 ·rw [if_neg bR];by_cases Np:l.getD e.2.toNat 0<l.getD e.1.toNat 0
  ·rw [if_pos Np];refine ⟨h.set (c12.trans a2.1) a2.2,fun v => ?_,fun hd => ?_,fun hd => ?_⟩
   ·rw [gs _ _ _ i1];split
    ·subst v;omega
    ·exact Int.le_refl _
   ·omega
   ·rw [gs _ _ _ i1,if_pos rfl];omega
  ·rw [if_neg Np];refine ⟨h,fun v=>Int.le_refl _,fun hd => ?_,fun hd => ?_⟩<;>omega
theorem Dn.rnd (hL:Lab n E L) (hE:oN n E):∀(D:aa (Int × Int)) (l:aa Int),(∀e,e∈D->e∈E)->Dn n E l ->
  Dn n E (lrnd D l)/\(∀v:Nat,(lrnd D l).getD v 0<=l.getD v 0) /\
  ∀e,e∈D->(l.getD e.1.toNat 0=L.getD e.1.toNat 0->(lrnd D l).getD e.2.toNat 0=L.getD e.2.toNat 0)/\(l.getD e.2.toNat 0=L.getD e.2.toNat 0->(lrnd D l).getD e.1.toNat 0=L.getD e.1.toNat 0)
 | [],l,_,h=>⟨h,fun v=>Int.le_refl _,fun e he=>by cases he⟩
 | e::D,l,hs,h=>by
  have hm:=hs e (dW ..)
  obtain ⟨h1,h2,h3,h4⟩:=h.rlE hL hm (hE e hm)
  obtain ⟨k1,k2,k3⟩:=Dn.rnd hL hE D (Go.Fw.rlE l e) (fun x hx=>hs x (dQ _ hx)) h1
  -- what is done stays done
  have dn:∀{l':aa Int} (v:Nat),v<n->Dn n E l'->(∀u:Nat,l'.getD u 0<=l.getD u 0)->l.getD v 0=L.getD v 0->l'.getD v 0=L.getD v 0:=by
   intro l' v hv hl' cZ hd;have hg:=hl'.ge hL (getD_at (l:=l') (i:=v) (by rw [hl'.1];exact hv)) (getD_at (l:=L) (i:=v) (by rw [hL.1];exact hv));have:=cZ v;omega
  have dn':∀(v:Nat),v<n->(Go.Fw.rlE l e).getD v 0=L.getD v 0->(Go.Fw.lrnd D (Go.Fw.rlE l e)).getD v 0=L.getD v 0:=by
   intro v hv hd
   have hg:=k1.ge hL (getD_at (i:=v) (by rw [k1.1];exact hv)) (getD_at (l:=L) (i:=v) (by rw [hL.1];exact hv))
   have:=k2 v
   omega
  refine ⟨k1,fun v=>Int.le_trans (k2 v) (h2 v),fun e' Hf => ?_⟩
  rcases aY.1 Hf with rfl|Hf
  ·have hb:=hE _ hm
   exact ⟨fun hd=>dn' _ (by omega) (h3 hd),fun hd=>dn' _ (by omega) (h4 hd)⟩
  ·have hb:=hE _ (hs e' (dQ _ Hf))
   exact ⟨fun hd=>(k3 e' Hf).1 (dn _ (by omega) h1 h2 hd),fun hd=>(k3 e' Hf).2 (dn _ (by omega) h1 h2 hd)⟩
def QH (n:Nat) (L l:aa Int):Nat:=(List.range n).countP fun v=>decide (l.getD v 0=L.getD v 0)
theorem afb {p q:Nat->Bool}:∀{m:aa Nat},(∀x,x∈m->p x=true->q x=true)->(∃x,x∈m/\p x=false/\q x=true)->m.countP p<m.countP q
 | [],_,⟨x,hx,_⟩=>by cases hx
 | a::m,h,⟨x,hx,hp,hq⟩=>by
  rw [List.countP_cons,List.countP_cons];have cZ:m.countP p<=m.countP q:=List.countP_mono_left fun y hy=>h y (dQ _ hy)
  rcases aY.1 hx with rfl|hx
  ·rw [if_neg (by simp [hp]),if_pos hq];omega
  ·have:=afb (fun y hy=>h y (dQ _ hy)) ⟨x,hx,hp,hq⟩;have ha:=h a (dW ..);cases hpa:p a with
   | true=>rw [ha hpa];simp;omega
   | false=>cases hqa:q a<;>simp<;>omega
theorem aji {D:Int->Prop} {u v:Int} (h:Con E u v) (hu:D u) (hv:¬D v):∃x y:Int,D x/\¬D y/\((x,y)∈E\/(y,x)∈E):=by
 induction h with
 | refl=>exact absurd hu hv
 | @fwd a b _ he ih=>
  by_cases hb:D a
  ·exact ⟨_,_,hb,hv,.inl he⟩
  ·exact ih hb
 | @bwd a b _ he ih=>
  by_cases hb:D a
  ·exact ⟨_,_,hb,hv,.inr he⟩
  ·exact ih hb
def Ma (E:aa (Int × Int)):Nat->aa Int->aa Int
 | 0,l=>l
 | k+1,l=>Ma E k (Go.Fw.lrnd E l)
theorem afc (hL:Lab n E L) (hE:oN n E) {l:aa Int} (h:Dn n E l) (hs:∀v:Nat,v<n->L.getD v 0=v->l.getD v 0=v) (aX:l≠L) :
  QH n L l<QH n L (Go.Fw.lrnd E l):=by
 obtain ⟨k1,k2,k3⟩:=Dn.rnd hL hE E l (fun _ h=>h) h;have stay:∀v:Nat,v<n->l.getD v 0=L.getD v 0->(Go.Fw.lrnd E l).getD v 0=L.getD v 0:=by
  intro v hv hd;have hg:=k1.ge hL (getD_at (i:=v) (by rw [k1.1];exact hv)) (getD_at (l:=L) (i:=v) (by rw [hL.1];exact hv));have:=k2 v;omega
 have:∃v:Nat,v<n/\l.getD v 0≠L.getD v 0:=by
  apply yM;intro hn;apply aX;apply XG;intro i;by_cases hi:i<n
  ·rw [getD_at (l:=l) (i:=i) (by rw [h.1];exact hi),getD_at (l:=L) (i:=i) (by rw [hL.1];exact hi)];congr 1;exact yM fun hc=>hn ⟨i,hi,hc⟩
  ·rw [zP (by rw [h.1];omega),zP (by rw [hL.1];omega)]
 obtain ⟨v,hv,Ha⟩:=this;have gL:=getD_at (l:=L) (i:=v) (by rw [hL.1];exact hv);have hm:=hL.lt gL;have CZ:=hL.self gL;have awT:=(hL.2 v _ gL).1;obtain ⟨x,y,hx,hy,he⟩:=aji (D:=fun z:Int=>0<=z/\z<n/\l.getD z.toNat 0=L.getD z.toNat 0) awT.symm
  ⟨hm.1,hm.2,by
   have e1:L.getD (L.getD v 0).toNat 0=L.getD v 0:=by rw [dw (i:=(L.getD v 0).toNat),CZ];rfl
   rw [e1,hs (L.getD v 0).toNat (by omega) (by rw [e1];omega)];omega⟩
  (fun hd=>Ha (by simpa using hd.2.2))
 refine afb (fun z hz hp => ?_) ⟨y.toNat,?_,?_,?_⟩
 ·simp only [decide_eq_true_eq] at hp ⊢;exact stay z (iY.1 hz) hp
 ·rw [iY];rcases he with he|he<;>have:=hE _ he<;>simp only at this<;>omega
 ·simp only [decide_eq_false_iff_not];intro hd;apply hy;rcases he with he|he<;>have:=hE _ he<;>simp only at this<;>exact ⟨by omega,by omega,hd⟩
 ·simp only [decide_eq_true_eq];rcases he with he|he
  ·exact (k3 _ he).1 hx.2.2
  ·exact (k3 _ he).2 hx.2.2
theorem afd (hL:Lab n E L) (hE:oN n E):∀(k:Nat) (l:aa Int),Dn n E l->(∀v:Nat,v<n->L.getD v 0=v->l.getD v 0=v)->n<=QH n L l+k->Ma E k l=L
 | 0,l,h,hs,hc=>by
  have Fq:QH n L l=n:=by
   have:QH n L l<=(List.range n).length:=List.countP_le_length;rw [sJ] at this;omega
  apply yM
  intro aX
  have:=afc hL hE h hs aX
  have:QH n L (Go.Fw.lrnd E l)<=(List.range n).length:=List.countP_le_length
  rw [sJ] at this
  omega
 | k+1,l,h,hs,hc=>by
  obtain ⟨k1,k2,_⟩:=Dn.rnd hL hE E l (fun _ h=>h) h
  refine afd hL hE k (Go.Fw.lrnd E l) k1 (fun v hv e => ?_) ?_
  ·have hg:=k1.ge hL (getD_at (i:=v) (by rw [k1.1];exact hv)) (getD_at (l:=L) (i:=v) (by rw [hL.1];exact hv))
   have:=k2 v
   have:=hs v hv e
   omega
  ·by_cases aX:l=L
   ·subst aX
    have:QH n l (Go.Fw.lrnd E l)=n:=by
     unfold QH
     rw [show n=(List.range n).length from by simp,<-sJ (n:=n),List.countP_eq_length.2]
     ·simp
     ·intro v hv
      simp only [sJ,iY] at hv
      simp only [decide_eq_true_eq]
      have hg:=k1.ge hL (getD_at (i:=v) (by rw [k1.1];exact hv)) (getD_at (l:=l) (i:=v) (by rw [hL.1];exact hv))
      have:=k2 v
      omega
    omega
   ·have:=afc hL hE h hs aX
    omega
theorem aqD (hE:oN n E):Ma E n (pU n)=labs n E:=by
 refine afd (kZ hE) hE n (pU n) ⟨vI n,fun v x h => ?_⟩ (fun v hv e => ?_) (by omega)
 ·obtain ⟨_,rfl⟩:=Xb h;exact ⟨.refl _,XF v⟩
 ·have:=getD_at (l:=pU n) (i:=v) (by rw [vI];exact hv);exact (Xb this).2
end
theorem Xc (a b c:Int):bE (a,b,c)=some (decide (b<=a)&&decide (a<=c),()):=by
 show Wp BIG _=_;rw [avX];cases decide (b<=a)<;>rfl
theorem axZ (a b c:Int):fq (a,b,c)=some (decide (b<=a)&&decide (a<=c),()):=by
 show ap4 BIG _=_;rw [aDg];cases decide (b<=a)<;>rfl
abbrev Ed:=Int × Int
def E5 (own:aa Int) (s:Int) (y:Ed):Bool:=(decide (0<=y.1)&&decide (y.1<own.length)&&decide (own[y.1.toNat]?=some s))&&(decide (0<=y.2)&&decide (y.2<own.length)&&decide (own[y.2.toNat]?=some s))
theorem anN (own:aa Int) (h:own.length<=1048576) (v s:Int):R8 (own,v,s)=some (decide (0<=v)&&decide (v<own.length)&&decide (own[v.toNat]?=some s),()):=by
 show acr BIG _=_;rw [azt,axZ,af,wr (by omega) (by omega)];by_cases h0:0<=v
 ·by_cases h1:v<own.length
  ·have hi:v.toNat<own.length:=by omega
   rw [ak h0,ak h1,ak (by omega)];simp only [wF,ai];rw [bV h0 h1,aR hi];simp
  ·rw [ak h0,az h1,az (by omega)];rfl
 ·rw [az h0];rfl
theorem mR {α:Type} (p:α->Bool):∀(l:aa α) (s:aa α),l.foldl (fun s y=>if p y then s++[y] else s) s=s++l.filter p
 | [],s=>by simp
 | y::l,s=>by
  rw [gH,mR p l];cases h:p y<;>simp [h]
theorem atT (own:aa Int) (es:aa Ed) (s:Int) (h:own.length<=1048576) (he:es.length<=1048576):P9 (own,es,s)=some (es.filter (E5 own s),()):=by
 have hm:maxLen=9223372036854775807:=by decide
 show P8 BIG _=_;rw [atJ,jS es (by omega) (fun i (c:aa Ed)=>c.length<=i) (fun c y=>if E5 own s y then c++[y] else c) id (by simp) (fun i c y _ (h:c.length<=i)=>by show List.length (if _ then _ else _)<=_;split<;>(try simp)<;>omega)]
 ·rw [mR];rfl
 ·intro self c i y hy (hc:c.length<=i);have hi:=(aZ hy).1;simp only [show ((i:Int)<(es.length:Int)) from by omega,decide_true,ai];rw [aF hi,hy,af,anN _ h,af,anN _ h,bT (by omega)];unfold E5;cases decide (0<=y.1)&&decide (y.1<own.length)&&decide (own[y.1.toNat]?=some s)<;>cases decide (0<=y.2)&&decide (y.2<own.length)&&decide (own[y.2.toNat]?=some s)<;>simp [show c.length+1<=4294967296 from by omega]
 ·intro self c hc;simp
theorem atU (own:aa Int) (es:aa Ed) (s:Int) (h:own.length<=1048576) (he:es.length<=1048576):Ph (own,es,s)=some (es.filter (E5 own s),()):=by
 have hm:maxLen=9223372036854775807:=by decide
 show Pg BIG _=_;rw [ato,jS es (by omega) (fun i (c:aa Ed)=>c.length<=i) (fun c y=>if E5 own s y then c++[y] else c) id (by simp) (fun i c y _ (h:c.length<=i)=>by show List.length (if _ then _ else _)<=_;split<;>(try simp)<;>omega)]
 ·rw [mR];rfl
 ·intro self c i y hy (hc:c.length<=i);have hi:=(aZ hy).1;simp only [show ((i:Int)<(es.length:Int)) from by omega,decide_true,ai];rw [aF hi,hy,af,Xc,af,Xc,af,bT (by omega),wr (by omega) (by omega)];unfold E5;by_cases a1:0<=y.1
  ·by_cases a2:y.1<own.length
   ·by_cases b1:0<=y.2
    ·by_cases b2:y.2<own.length
     ·have k1:y.1.toNat<own.length:=by omega
      have k2:y.2.toNat<own.length:=by omega
      rw [bV a1 a2,bV b1 b2,aR k1,aR k2];by_cases c1:own[y.1.toNat]=s<;>by_cases c2:own[y.2.toNat]=s<;>simp [a1,a2,b1,b2,c1,c2,show y.1<=(own.length:Int)-1 from by omega,show y.2<=(own.length:Int)-1 from by omega,show c.length+1<=4294967296 from by omega]
     ·have:¬y.2<=(own.length:Int)-1:=by omega
      simp [a1,a2,b1,b2,this]
    ·simp [a1,a2,b1]
   ·have:¬y.1<=(own.length:Int)-1:=by omega
    simp [a1,a2,this]
  ·simp [a1]
 ·intro self c hc;simp
abbrev Sd:=Int × Int × Int × Int × Int × Int
def aW (a b c:Int):Bool:=decide (b<=a)&&decide (a<=c)
theorem dH (a b c:Int):bE (a,b,c)=some (aW a b c,()):=Xc a b c
theorem iV (a b c:Int):fq (a,b,c)=some (aW a b c,()):=axZ a b c
theorem aV {a b c:Int}:aW a b c=true↔b<=a/\a<=c:=by simp [aW]
def eF (n:Int) (e:Ed):Bool:=aW n 1 12&&(aW e.1 0 (n-1)&&(aW e.2 0 (n-1)&&decide (e.1<e.2)))
theorem QI (n:Int) (e:Ed):Bc (n,e)=some (eF n e,()):=by
 show Pv BIG _=_;rw [atq,iV,af];unfold eF;cases h:aW n 1 12 with
 | false=>rfl
 | true=>
  have:=aV.1 h;rw [wr (by omega) (by omega)];simp only [iV,af,ai,dY];cases aW e.1 0 (n-1)<;>cases aW e.2 0 (n-1)<;>rfl
theorem GG (n:Int) (e:Ed):vX (n,e)=some (eF n e,()):=by
 show Oz BIG _=_;rw [as5,dH,af];unfold eF;cases h:aW n 1 12 with
 | false=>rfl
 | true=>
  have:=aV.1 h;rw [wr (by omega) (by omega)];simp only [dH,af,ai,dY];cases aW e.1 0 (n-1)<;>cases aW e.2 0 (n-1)<;>rfl
def lsB (x y:Ed):Bool:=decide (x.1<y.1) || (decide (x.1=y.1)&&decide (x.2<y.2))
theorem Xd (x y:Ed):zt (x,y)=some (lsB x y,()):=by
 show WF BIG _=_;rw [av5];unfold lsB;cases decide (x.1<y.1)<;>cases decide (x.1=y.1)<;>rfl
theorem Mc (x y:Ed):xh (x,y)=some (lsB x y,()):=by
 show KN BIG _=_;rw [aps];unfold lsB;cases decide (x.1<y.1)<;>cases decide (x.1=y.1)<;>rfl
def eP (n:Int) (es:aa Ed) (i:Nat):Bool:=match es[i]? with
 | some y=>eF n y&&(match i with
  | 0=>true
  | j+1=>match es[j]? with
   | some x=>lsB x y
   | none=>false)
 | none=>false
theorem aqE {n:Int} {es:aa Ed} {y:Ed} (h:es[0]?=some y):eP n es 0=eF n y:=by
 unfold eP;rw [h];simp
theorem aqF {n:Int} {es:aa Ed} {x y:Ed} {j:Nat} (h:es[j+1]?=some y) (h':es[j]?=some x):eP n es (j+1)=(eF n y&&lsB x y):=by
 unfold eP;rw [h];simp only [h']
def mg (n:Int) (es:aa Ed):Bool:=if ∀i,i<es.length->eP n es i=true then decide ((es.length:Int)<=66) else false
theorem jV {n:Int} {es:aa Ed} (h:mg n es=true):es.length<=66:=by
 unfold mg at h;split at h
 ·rw [decide_eq_true_eq] at h;omega
 ·cases h
theorem CU (n:Int) (es:aa Ed) (hl:es.length<=1048576):tC (n,es)=some (mg n es,()):=by
 have hm:maxLen=9223372036854775807:=by decide
 show Lu BIG _=_;rw [ap8,kY es (by omega) (eP n es) false]
 ·unfold mg;split<;>rfl
 ·intro self i y hy;have hi:=(aZ hy).1;simp only [show ((i:Int)<(es.length:Int)) from by omega,decide_true,ai];rw [aF hi,hy,af,QI,bT (by omega)];cases i with
  | zero=>
   rw [aqE hy];cases eF n y<;>simp
  | succ j=>
   have hj:es[j]?=some (es[j]'(by omega)):=aR (by omega);rw [aqF hy hj,show (((j+1:Nat):Int)-1)=(j:Int) from by omega,wr (n:=(j:Int)) (by omega) (by omega)];cases hb:eF n y with
   | false=>simp
   | true=>
    simp only [af,bB,ax,show (0:Int)<((j+1:Nat):Int) from by omega,decide_true,ai,dY];rw [aF (by omega),hj];simp only [af];simp only [af,Xd];cases lsB _ y<;>rfl
 ·intro self;simp
theorem Ao (n:Int) (es:aa Ed) (hl:es.length<=1048576):qx (n,es)=some (mg n es,()):=by
 have hm:maxLen=9223372036854775807:=by decide
 show H7 BIG _=_;rw [akR,kY es (by omega) (eP n es) false]
 ·unfold mg;split<;>rfl
 ·intro self i y hy;have hi:=(aZ hy).1;simp only [show ((i:Int)<(es.length:Int)) from by omega,decide_true,ai];rw [aF hi,hy,af,GG,bT (by omega)];cases i with
  | zero=>
   rw [aqE hy];cases eF n y<;>simp
  | succ j=>
   have hj:es[j]?=some (es[j]'(by omega)):=aR (by omega);rw [aqF hy hj,show (((j+1:Nat):Int)-1)=(j:Int) from by omega,wr (n:=(j:Int)) (by omega) (by omega)];cases hb:eF n y with
   | false=>simp
   | true=>
    simp only [af,bB,ax,show (0:Int)<((j+1:Nat):Int) from by omega,decide_true,ai,dY];rw [aF (by omega),hj];simp only [af];rw [aF hi,hy];simp only [af,Mc];cases lsB _ y<;>rfl
 ·intro self;simp
abbrev Be:=Int × Int × List (Int × Int) × Int
def pV (n:Int) (o:Be):Bool:=aW n 1 12&&(aW o.1 1 100000&&(aW o.2.1 1 4&&(mg n o.2.2.1&&(if o.2.1=3 then decide (o.2.2.1.length=0)&&aW o.2.2.2 0 (n-1) else if o.2.1=4 then decide (0<o.2.2.1.length)&&decide (o.2.2.2=0) else decide (o.2.2.1.length=1)&&decide (o.2.2.2=0)))))
theorem Me (n:Int) (o:Be) (hl:o.2.2.1.length<=1048576):Cw (n,o)=some (pV n o,()):=by
 show KQ BIG _=_;rw [apw];simp only [dH,Ao n _ hl,af];unfold pV;cases h:aW n 1 12 with
 | false=>rfl
 | true=>
  have:=aV.1 h;rw [wr (by omega) (by omega)];cases h1:aW o.1 1 100000 with
  | false=>rfl
  | true=>
   cases h2:aW o.2.1 1 4 with
   | false=>rfl
   | true=>
    cases h3:mg n o.2.2.1 with
    | false=>rfl
    | true=>
     simp only [bB,ax,af,dY];by_cases k3:o.2.1=3
     ·rw [if_pos k3,ak k3,ai];by_cases hz:o.2.2.1.length=0
      ·rw [ak hz,ak (by omega)];rfl
      ·rw [az hz,az (by omega)];rfl
     ·rw [if_neg k3,az k3,ax];by_cases k4:o.2.1=4
      ·rw [if_pos k4,ak k4,ai];by_cases hz:0<o.2.2.1.length
       ·rw [ak hz,ak (by omega)];rfl
       ·rw [az hz,az (by omega)];rfl
      ·rw [if_neg k4,az k4,ax];by_cases hz:o.2.2.1.length=1
       ·rw [ak hz,ak (by omega)];rfl
       ·rw [az hz,az (by omega)];rfl
theorem Mf (n:Int) (o:Be) (hl:o.2.2.1.length<=1048576):CL (n,o)=some (pV n o,()):=by
 show Lx BIG _=_;rw [aqb];simp only [iV,CU n _ hl,af];unfold pV;cases h:aW n 1 12 with
 | false=>rfl
 | true=>
  have:=aV.1 h;rw [wr (by omega) (by omega)];cases h1:aW o.1 1 100000 with
  | false=>rfl
  | true=>
   cases h3:mg n o.2.2.1 with
   | false=>simp
   | true=>
    simp only [bB,ax,af,dY];by_cases k3:o.2.1=3
    ·have h2:aW o.2.1 1 4=true:=aV.2 (by omega);rw [h2,if_pos k3,ak k3];rw [az (by omega:¬o.2.1=1),az (by omega:¬o.2.1=2)];by_cases hz:o.2.2.1.length=0
     ·rw [ak hz,ak (show (o.2.2.1.length:Int)=0 from by omega)];by_cases hv:o.2.2.2=0<;>simp [hv]
     ·rw [az hz,az (show ¬(o.2.2.1.length:Int)=0 from by omega)];by_cases hv:o.2.2.2=0<;>simp [hv]
    ·rw [if_neg k3,az k3];by_cases hv:o.2.2.2=0
     ·simp only [hv,decide_true,bB,ax,af,wE];by_cases k4:o.2.1=4
      ·have h2:aW o.2.1 1 4=true:=aV.2 (by omega);rw [h2,if_pos k4,ak k4,az (by omega:¬o.2.1=1),az (by omega:¬o.2.1=2)];simp
      ·rw [if_neg k4,az k4];by_cases k1:o.2.1=1
       ·have h2:aW o.2.1 1 4=true:=aV.2 (by omega);rw [h2,ak k1];simp;omega
       ·by_cases k2:o.2.1=2
        ·have h2:aW o.2.1 1 4=true:=aV.2 (by omega);rw [h2,az k1,ak k2];simp;omega
        ·have h2:aW o.2.1 1 4=false:=by
          cases hh:aW o.2.1 1 4 with
          | false=>rfl
          | true=>have:=aV.1 hh;omega
         rw [h2,az k1,az k2];rfl
     ·simp [hv]
def lbP (l:aa Int) (i:Nat):Bool:=match l[i]? with
 | some y=>aW y 0 i&&(match l[y.toNat]? with
  | some z=>decide (z=y)
  | none=>false)
 | none=>false
theorem atW {l:aa Int} {i:Nat} {y z:Int} (h:l[i]?=some y) (h':l[y.toNat]?=some z):lbP l i=(aW y 0 i&&decide (z=y)):=by
 unfold lbP;rw [h];simp only [h']
theorem ax0 {l:aa Int} {i:Nat} {y:Int} (h:l[i]?=some y) (h':aW y 0 i=false):lbP l i=false:=by
 unfold lbP;rw [h];simp only [h',Bool.false_and]
def sj (n:Int) (l:aa Int):Bool:=if (l.length:Int)=n then (if ∀i,i<l.length->lbP l i=true then true else false) else false
theorem Vn (n:Int) (l:aa Int) (hl:l.length<=1048576):Ah (n,l)=some (sj n l,()):=by
 have hm:maxLen=9223372036854775807:=by decide
 show Ir BIG _=_;rw [ali];unfold sj;by_cases hn:(l.length:Int)=n
 ·rw [if_pos hn,ak hn,bB,ax,kY l (by omega) (lbP l) false]
  ·split<;>rfl
  ·intro self i y hy;have hi:=(aZ hy).1;simp only [show ((i:Int)<(l.length:Int)) from by omega,decide_true,ai];rw [aF hi,hy,af,iV,bT (by omega)];cases hb:aW y 0 (i:Int) with
   | false=>rw [ax0 hy hb];simp
   | true=>
    have:=aV.1 hb;have hz:l[y.toNat]?=some (l[y.toNat]'(by omega)):=aR (by omega);rw [atW hy hz,hb];simp only [af,bB,ax,dY];rw [bV (by omega) (by omega),hz];simp only [af];by_cases hd:l[y.toNat]'(by omega)=y<;>simp [hd]
  ·intro self;simp
 ·rw [if_neg hn,az hn];rfl
theorem QJ (n:Int) (l:aa Int) (hl:l.length<=1048576):xn (n,l)=some (sj n l,()):=by
 have hm:maxLen=9223372036854775807:=by decide
 show DW BIG _=_;rw [ahX];unfold sj;by_cases hn:(l.length:Int)=n
 ·rw [if_pos hn,ak hn,bB,ax];subst hn;rw [kY l (by omega) (lbP l) false]
  ·split<;>rfl
  ·intro self i y hy;have hi:=(aZ hy).1;simp only [show ((i:Int)<(l.length:Int)) from by omega,decide_true,ai];simp only [aF hi,hy,af,dH,bT (show i<maxLen from by omega)];cases hb:aW y 0 (i:Int) with
   | false=>rw [ax0 hy hb];simp
   | true=>
    have:=aV.1 hb;have hz:l[y.toNat]?=some (l[y.toNat]'(by omega)):=aR (by omega);rw [atW hy hz,hb];simp only [af,bB,ax,dY];rw [bV (by omega) (by omega),hz];simp only [af];by_cases hd:l[y.toNat]'(by omega)=y<;>simp [hd]
  ·intro self;simp
 ·rw [if_neg hn,az hn];rfl
abbrev An:=Int × Bool × List (Int × Int) × List Int
def pW (n:Int) (o:An):Bool:=aW n 1 12&&(aW o.1 1 100000&&(mg n o.2.2.1&&sj n o.2.2.2))
theorem Vo (n:Int) (o:An) (hl:o.2.2.1.length<=1048576) (hl':o.2.2.2.length<=1048576):Ak (n,o)=some (pW n o,()):=by
 show IA BIG _=_;rw [alp];simp only [iV,CU n _ hl,Vn n _ hl',af];unfold pW;cases aW n 1 12<;>cases aW o.1 1 100000<;>cases mg n o.2.2.1<;>rfl
theorem Vp (n:Int) (o:An) (hl:o.2.2.1.length<=1048576) (hl':o.2.2.2.length<=1048576):Ac (n,o)=some (pW n o,()):=by
 show Ih BIG _=_;rw [ak4];simp only [dH,Ao n _ hl,QJ n _ hl',af];unfold pW;cases aW n 1 12<;>cases aW o.1 1 100000<;>cases mg n o.2.2.1<;>rfl
theorem aaV (x:Ed):lsB x x=false:=by simp [lsB]
theorem anO (x y:Ed):lsB x y=true↔x.1<y.1\/(x.1=y.1/\x.2<y.2):=by simp [lsB]
theorem Bf {x y z:Ed} (h:lsB x y=true) (h':lsB y z=true):lsB x z=true:=by
 rw [anO] at *;omega
theorem Sa {x y:Ed} (h:lsB x y=false) (h':lsB y x=false):x=y:=by
 have h1:¬lsB x y=true:=by simp [h]
 have h2:¬lsB y x=true:=by simp [h']
 rw [anO] at h1 h2;exact Prod.ext (by omega) (by omega)
theorem QK {x y:Ed} (h:lsB x y=true):lsB y x=false:=by
 cases h':lsB y x with
 | false=>rfl
 | true=>have:=Bf h h';rw [aaV] at this;cases this
abbrev uA (l:List Ed):Prop:=l.Pairwise (fun x y=>lsB x y=true)
def ins (l:aa Ed) (e:Ed):aa Ed:=l.filter (fun y=>lsB y e)++[e]++l.filter (fun y=>lsB e y)
theorem mG {l:aa Ed} {e x:Ed}:x∈ins l e↔x=e\/x∈l:=by
 simp only [ins,bG,jK,cK];constructor
 ·rintro ((h|h)|h)
  ·exact .inr h.1
  ·exact .inl h
  ·exact .inr h.1
 ·rintro (h|h)
  ·exact .inl (.inr h)
  ·cases h1:lsB x e with
   | true=>exact .inl (.inl ⟨h,rfl⟩)
   | false=>
    cases h2:lsB e x with
    | true=>exact .inr ⟨h,rfl⟩
    | false=>exact .inl (.inr (Sa h1 h2))
theorem acv {l:aa Ed} {e:Ed} (h:uA l):uA (ins l e):=by
 simp only [ins,uA,lK,List.pairwise_append,J_,List.pairwise_cons];refine ⟨h.filter _,⟨fun y hy=>(jK.1 hy).2,h.filter _⟩,fun x hx y hy => ?_⟩;have h1:=(jK.1 hx).2;rcases aY.1 hy with hy|hy
 ·subst hy;exact h1
 ·exact Bf h1 (jK.1 hy).2
theorem JS (e:Ed):∀l:aa Ed,(l.filter (fun y=>lsB y e)).length+(l.filter (fun y=>lsB e y)).length<=l.length
 | []=>by simp
 | y::l=>by
  have:=JS e l;simp only [Kg];cases h1:lsB y e<;>cases h2:lsB e y<;>simp
  ·omega
  ·omega
  ·omega
  ·rw [QK h1] at h2;cases h2
theorem azx (l:aa Ed) (e:Ed):(ins l e).length<=l.length+1:=by
 have:=JS e l;simp only [ins,dP,Ka];omega
def xP:aa Ed->Ed->Nat
 | [],_=>0
 | y::l,e=>if lsB y e then xP l e+1 else 0
theorem acw {l:aa Ed} {e:Ed} (h:uA l) (aX:e∉l):l.take (xP l e)++[e]++l.drop (xP l e)=ins l e:=by
 induction l with
 | nil=>rfl
 | cons y l ih=>
  rw [uA,List.pairwise_cons] at h;have ih:=ih h.2 (fun hh=>aX (by simp [hh]));cases h1:lsB y e with
  | true=>
   have h2:=QK h1;simp only [xP,h1,if_true,zV,List.drop_succ_cons,mZ,ih];simp only [ins,Kg,h1,h2,if_true,mZ];simp
  | false=>
   have h2:lsB e y=true:=by
    cases h2:lsB e y with
    | true=>rfl
    | false=>exact absurd (Sa h1 h2).symm (fun hh=>aX (by simp [hh]))
   have h3:∀z,z∈l->lsB z e=false/\lsB e z=true:=fun z hz=>by
    have:=Bf h2 (h.1 z hz);exact ⟨QK this,this⟩
   have f1:l.filter (fun y=>lsB y e)=[]:=by
    rw [List.filter_eq_nil_iff];intro z hz;simp [(h3 z hz).1]
   have f2:l.filter (fun y=>lsB e y)=l:=by
    rw [List.filter_eq_self];intro z hz;exact (h3 z hz).2
   simp only [xP,h1,ins,Kg,h2,if_true,f1,f2];simp
theorem Bg (l:aa Ed) (e:Ed) (hl:l.length<=maxLen):vY (l,e)=some (decide (e∈l),()):=by
 show Gj BIG _=_;rw [ad2,kY l (Nat.lt_of_le_of_lt hl afa) (fun i=>decide (l[i]?≠some e)) true (fun self i y hy=>by
   have hi:=(aZ hy).1
   simp only [show ((i:Int)<(l.length:Int)) from by omega,decide_true,ai]
   rw [aF hi,hy,af,bT (by omega)]
   obtain ⟨y1,y2⟩:=y
   obtain ⟨e1,e2⟩:=e
   by_cases h1:y1=e1<;>by_cases h2:y2=e2<;>simp [h1,h2]) (fun self=>by simp)]
 by_cases h:e∈l
 ·rw [if_neg,ak h]
  ·rfl
  ·intro hh;obtain ⟨i,hi⟩:=List.getElem?_of_mem h;have:=hh i (aZ hi).1;rw [decide_eq_true_eq] at this;exact this hi
 ·rw [if_pos,az h]
  ·rfl
  ·intro i hi;rw [decide_eq_true_eq];exact fun hh=>h (eY hh)
theorem Mg (l:aa Ed) (e:Ed) (hl:l.length<=maxLen):xJ (l,e)=some (decide (e∈l),()):=by
 rw [<-Bg l e hl];show LF BIG _=Gj BIG _;rw [aqf,ad2];all_goals rfl
theorem QL (l:aa Ed) (e:Ed) (hl:l.length<=1048576):A_ (l,e)=some (ins l e,()):=by
 have hm:maxLen=9223372036854775807:=by decide
 show OP BIG _=_;rw [atb,jS l (by omega) (fun i (c:aa Ed)=>c.length<=i) (fun c y=>if lsB y e then c++[y] else c) id (by simp) (fun i c y _ (h:c.length<=i)=>by show List.length (if _ then _ else _)<=_;split<;>(try simp)<;>omega)]
 ·rw [mR];simp only [id,gQ,af];have h1:=qM (fun y=>lsB y e) l;rw [ak (by simp;omega),ai,jS l (by omega) (fun i (c:aa Ed)=>c.length<=l.length+1+i) (fun c y=>if lsB e y then c++[y] else c) id (by simp;omega) (fun i c y _ (h:c.length<=_)=>by show List.length (if _ then _ else _)<=_;split<;>(try simp)<;>omega)]
  ·rw [mR];rfl
  ·intro self c i y hy (hc:c.length<=_);have hi:=(aZ hy).1;simp only [show ((i:Int)<(l.length:Int)) from by omega,decide_true,ai];simp only [aF hi,hy,af,Mc,bT (show i<maxLen from by omega)];cases lsB e y with
   | false=>simp
   | true=>simp [show c.length+1<=4294967296 from by omega]
  ·intro self c hc;simp
 ·intro self c i y hy (hc:c.length<=i);have hi:=(aZ hy).1;simp only [show ((i:Int)<(l.length:Int)) from by omega,decide_true,ai];simp only [aF hi,hy,af,Mc,bT (show i<maxLen from by omega)];cases lsB y e with
  | false=>simp
  | true=>simp [show c.length+1<=4294967296 from by omega]
 ·intro self c hc;simp
theorem atX:∀(l:aa Ed) (e:Ed),xP l e<=l.length
 | [],_=>by simp [xP]
 | y::l,e=>by
  have:=atX l e;simp only [xP,bF];split<;>omega
theorem atY:∀{l:aa Ed} {e y:Ed} {i:Nat},i<=xP l e->l[i]?=some y->lsB y e=decide (i<xP l e)
 | [],_,_,_,_,hy=>by simp at hy
 | z::l,e,y,i,hi,hy=>by
  cases hz:lsB z e with
  | false=>
   simp only [xP,hz] at hi ⊢;have:i=0:=by simpa using hi
   subst this;simp only [J9,aN] at hy;subst hy;simp [hz]
  | true=>
   simp only [xP,hz,if_true] at hi ⊢;cases i with
   | zero=>
    simp only [J9,aN] at hy;subst hy;simp [hz]
   | succ i=>
    simp only [Xy] at hy;rw [atY (by omega) hy];simp
theorem IY (l:aa Ed) (e:Ed) (hl:l.length<=1048576):uz (l,e)=some (l.take (xP l e)++[e]++l.drop (xP l e),()):=by
 have hm:maxLen=9223372036854775807:=by decide
 have cZ:=atX l e;show Iz BIG _=_;rw [aln,ky (fun (x:Int)=>∃i:Nat,x=i/\i<=xP l e) (fun (x:Int)=>l.length-x.toNat) (fun _=>((xP l e:Nat):Int)) (fun self x ⟨i,h1,h2⟩ hs=>by
  subst h1
  by_cases hi:i<l.length
  ·have hy:=aR hi
   have qp:=atY h2 hy
   simp only [show ((i:Int)<(l.length:Int)) from by omega,decide_true,ai]
   simp only [aF hi,hy,af,Xd,bT (show i<maxLen from by omega),qp]
   by_cases bR:i<xP l e
   ·rw [ak bR,ai]
    exact hs _ ⟨i+1,rfl,bR⟩ (by simp;omega)
   ·rw [az bR,ax]
    have:i=xP l e:=by omega
    rw [<-this]
  ·have:i=l.length:=by omega
   have h3:xP l e=i:=by omega
   rw [h3,this]
   simp) (n:=BIG) (x:=0) (by simp [BIG];omega) ⟨0,rfl,by omega⟩]
 simp only [af,il,t_,uI];rw [ak (by omega),ai,ak (by omega),ai,ak (by simp;omega),ai,ak (by simp;omega),ai,ai,ak (by omega),ai,ak (by simp;omega),ai];congr 3;rw [Rk];simp
def fM {S α:Type} (st:S->α->ah S):S->aa α->ah S
 | s,[]=>some s
 | s,y::l=>(st s y).bind fun s'=>fM st s' l
theorem vJ {α S B:Type} (a:aa α) (hl:a.length<18446744073709551616) {F:(S × Int->ah (S ⊕ B))->S × Int->ah (S ⊕ B)} (I:Nat->S->Prop) (st:S->α->ah S) (b:B) {s0:S} (h0:I 0 s0)
  (hI:∀i s y s',a[i]?=some y->I i s->st s y=some s'->I (i+1) s')
  (hF:∀self s (i:Nat) y,a[i]?=some y->I i s->F self (s,(i:Int))=match st s y with
   | some s'=>self (s',((i+1:Nat):Int))
   | none=>some (.inr b))
  (hE:∀self s,I a.length s->F self (s,(a.length:Int))=some (.inl s)):aJ BIG F (s0,0)=some (match fM st s0 a with
   | some s=>.inl s
   | none=>.inr b):=by
 have:=ky (F:=F) (fun x=>∃i:Nat,x.2=i/\i<=a.length/\I i x.1) (fun x=>a.length-x.2.toNat) (fun x=>match fM st x.1 (a.drop x.2.toNat) with
   | some s=>.inl s
   | none=>.inr b) (fun self x ⟨i,h1,h2,h3⟩ hs => ?_) (n:=BIG) (x:=(s0,0)) (by simp;exact hl) ⟨0,rfl,by simp,h0⟩
 ·simpa using this
 ·obtain ⟨s,j⟩:=x;simp only at h1 h2 h3;subst h1;by_cases hi:i<a.length
  ·have hy:=aR hi;rw [hF self s i a[i] hy h3];simp only [il];rw [uU hi];simp only [fM];cases gP:st s a[i] with
   | none=>rfl
   | some s'=>
    simp only [af];rw [hs _ ⟨i+1,rfl,hi,hI _ _ _ _ hy h3 gP⟩ (by simp;omega)];simp
  ·have:i=a.length:=by omega
   subst this;rw [hE self s h3];simp [fM]
def BX (out:aa Ed) (e:Ed):ah (aa Ed):=if e∈out then none else some (ins out e)
theorem Xe {out s':aa Ed} {e:Ed} (h:BX out e=some s'):e∉out/\s'=ins out e:=by
 unfold BX at h;split at h
 ·cases h
 ·cases h;exact ⟨by assumption,rfl⟩
theorem anP:∀{A s s':aa Ed},fM BX s A=some s'->A.Nodup/\(∀x,x∈A->x∉s)/\(∀x,x∈s'↔x∈s\/x∈A)/\(uA s->uA s')/\s'.length<=s.length+A.length
 | [],s,s',h=>by
  simp only [fM,aN] at h;subst h;exact ⟨List.nodup_nil,by simp,by simp,id,by simp⟩
 | e::A,s,s',h=>by
  simp only [fM,Cf] at h;obtain ⟨s1,h1,h2⟩:=h;obtain ⟨aX,rfl⟩:=Xe h1;obtain ⟨k1,k2,k3,k4,k5⟩:=anP h2;refine ⟨nJ.2 ⟨fun hh=>k2 e hh (mG.2 (.inl rfl)),k1⟩,fun x hx => ?_,fun x => ?_,fun hs=>k4 (acv hs),?_⟩
  ·rcases aY.1 hx with rfl|hx
   ·exact aX
   ·exact fun hh=>k2 x hx (mG.2 (.inr hh))
  ·rw [k3,mG,aY];constructor
   ·rintro ((h|h)|h)
    ·exact .inr (.inl h)
    ·exact .inl h
    ·exact .inr (.inr h)
   ·rintro (h|h|h)
    ·exact .inl (.inr h)
    ·exact .inl (.inl h)
    ·exact .inr h
  ·have:=azx s e;simp only [bF];omega
theorem ax1:∀{A s:aa Ed},A.Nodup->(∀x,x∈A->x∉s)->∃s',fM BX s A=some s'
 | [],s,_,_=>⟨s,rfl⟩
 | e::A,s,h,h'=>by
  have hn:=nJ.1 h;have h1:BX s e=some (ins s e):=by unfold BX;rw [if_neg (h' e (by simp))]
  obtain ⟨s',hs⟩:=ax1 (A:=A) (s:=ins s e) hn.2 fun x hx hh=>by
   rcases mG.1 hh with rfl|hh
   ·exact hn.1 hx
   ·exact h' x (by simp [hx]) hh
  exact ⟨s',by simp only [fM,h1,af];exact hs⟩
theorem aBq (n:Int):bits .and .i64 n 255=n % 256:=by
 have aFM:(BitVec.ofInt 64 255).toNat=2 ^ 8-1:=by decide
 have key:(BitVec.ofInt 64 n &&& BitVec.ofInt 64 255).toNat=(n % ((2 ^ 64:Nat):Int)).toNat % 2 ^ 8:=by
  rw [BitVec.toNat_and,BitVec.toNat_ofInt,aFM,Nat.and_two_pow_sub_one_eq_mod]
 show IntKind.i64.wrap ((BitVec.ofInt 64 n &&& BitVec.ofInt 64 255).toNat:Nat)=n % 256;rw [key,IntKind.wrap_i64];omega
abbrev Bh:=List Int × Int × Int
def j_ (c:Bh):Prop:=c.1.length<=1048576/\0<=c.2.1/\c.2.1<=c.1.length
theorem xQ (c:Bh) (hc:j_ c):∃r c',lT c=some (r,c')/\j_ c'/\0<=r/\r<=255:=by
 have e:lT c=KG BIG c:=rfl;obtain ⟨h1,h2,h3⟩:=hc;rw [e,api,az (by decide),ax,az (by decide),ax];simp only [aBq];by_cases h:c.2.1<c.1.length
 ·rw [ak h,ai,bV h2 h,aR (by omega),af,af];refine ⟨_,_,rfl,⟨h1,?_,?_⟩,Int.emod_nonneg _ (by decide),by omega⟩
  ·show 0<=IntKind.wrap .i64 (c.2.1+1);rw [wr (by omega) (by omega)];omega
  ·show IntKind.wrap .i64 (c.2.1+1)<=_;rw [wr (by omega) (by omega)];show c.2.1+1<=(c.1.length:Int)
   omega
 ·rw [az h,ax,af];exact ⟨_,_,rfl,⟨h1,h2,h3⟩,Int.emod_nonneg _ (by decide),by omega⟩
theorem jg (c:Bh) (n:Int) (hc:j_ c) (hn:n<=1000000):∃r c',fG (c,n)=some (r,c')/\j_ c'/\0<=r/\(0<n->r<n)/\(n<=0->r=0):=by
 have e:fG (c,n)=HY BIG (c,n):=rfl;rw [e,akM];by_cases h0:n<=0
 ·rw [ak h0];exact ⟨0,c,rfl,hc,by omega,by omega,fun _=>rfl⟩
 ·rw [az h0,ax];obtain ⟨r1,c1,k1,o1,a1,b1⟩:=xQ c hc;by_cases h1:n<=256
  ·rw [ak h1,ai,k1,af,az (by omega),ax];refine ⟨_,_,rfl,o1,Int.tmod_nonneg _ a1,fun _ => ?_,by omega⟩;show Int.tmod r1 n<n;exact Int.tmod_lt_of_pos _ (by omega)
  ·rw [az h1,ax,k1,af];obtain ⟨r2,c2,k2,o2,a2,b2⟩:=xQ c1 o1;obtain ⟨r3,c3,k3,o3,a3,b3⟩:=xQ c2 o2;obtain ⟨r4,c4,k4,o4,a4,b4⟩:=xQ c3 o3;simp only [k2,k3,k4,af];rw [az (by omega),ax];refine ⟨_,_,rfl,o4,?_,fun _=>Int.tmod_lt_of_pos _ (by omega),by omega⟩;refine Int.tmod_nonneg _ ?_;rw [wr (n:=r1*16777216) (by omega) (by omega),wr (n:=r2*65536) (by omega) (by omega),wr (n:=r3*256) (by omega) (by omega),wr (n:=r1*16777216+r2*65536) (by omega) (by omega),wr (n:=r1*16777216+r2*65536+r3*256) (by omega) (by omega),wr (by omega) (by omega)];omega
def GrOk (n:Int) (es:aa Ed):Prop:=2<=n/\n<=12/\uA es/\(∀e,e∈es->eF n e=true)
theorem QM {n:Int} {es:aa Ed} (h:GrOk n es) (hl:es.length<=66):mg n es=true:=by
 unfold mg;rw [if_pos]
 ·rw [decide_eq_true_eq];omega
 ·intro i hi;have hy:=aR hi;cases i with
  | zero=>rw [aqE hy];exact h.2.2.2 _ (nH _)
  | succ j=>
   have hj:=aR (show j<es.length by omega);rw [aqF hy hj,h.2.2.2 _ (nH _),dY];exact Rj.1 h.2.2.1 j (j+1) (by omega) (by omega) (by omega)
theorem aaW (n:Int) (es:aa Ed) (e:Ed) (hl:es.length<=maxLen):CG ((n,es),e)=some (decide (e∈es),()):=by
 show Lg BIG _=_;rw [apU,Bg _ _ hl];rfl
theorem aaX (n:Int) (es:aa Ed) (e:Ed) (hl:es.length<=maxLen):CS ((n,es),e)=some (decide (e∈es),()):=by
 show LV BIG _=_;rw [aqv,Mg _ _ hl];rfl
theorem QN (a:aa Int) (ha:a.length<=1048576):∃c,vW a=some (c,())/\j_ c:=by
 have hm:maxLen=9223372036854775807:=by decide
 have e:vW a=Ol BIG a:=rfl;rw [e,asX];have:=pR (F:=fun (self1:Int × Int->ah (Int)) (x0:Int × Int)=>
  Option.bind (bif decide (x0.2<(a.length:Int)) then
   some (decide (x0.2<(4000:Int)))
   else some false:ah (Bool)) fun x2=>
  bif x2 then
   bnd a.length x0.2 fun n3=>
   Option.bind a[n3]? fun y4=>
   self1 (bits .and .i64 (IntKind.wrap .i64 ((IntKind.wrap .i64 ((IntKind.wrap .i64 (x0.1*(131:Int)))+(IntKind.wrap .i64 (y4))))+(7:Int))) (1073741823:Int),IntKind.wrap .i64 (x0.2+(1:Int)))
  else some x0.1) (fun x=>∃i:Nat,x.2=i/\i<=a.length) (fun x=>a.length-x.2.toNat) (fun _ _=>True) (fun self x ⟨i,h1,h2⟩ hs => ?_) (n:=BIG) (x:=(IntKind.wrap .i64 ((13501:Int)+(a.length:Int)),0)) (by simp [BIG];omega) ⟨0,rfl,by omega⟩
 ·obtain ⟨b,hb,_⟩:=this;rw [hb];exact ⟨_,rfl,ha,Int.le_refl _,by simp⟩
 ·obtain ⟨z,j⟩:=x;simp only at h1;subst h1;by_cases h:i<a.length
  ·by_cases h':(i:Int)<4000
   ·simp only [show ((i:Int)<(a.length:Int)) from by omega,h',decide_true,ai,af];rw [aF h,aR h,af,bT (by omega)];exact hs _ ⟨i+1,rfl,h⟩ (by simp;omega)
   ·simp only [show ((i:Int)<(a.length:Int)) from by omega,h',decide_true,decide_false,ai,ax,af];exact ⟨_,rfl,trivial⟩
  ·simp only [show ¬((i:Int)<(a.length:Int)) from by omega,decide_false,ax,af];exact ⟨_,rfl,trivial⟩
def del (es:aa Ed) (e:Ed):aa Ed:=es.filter (fun y=>!decide (y=e))
theorem ajj (a b:aa Ed) (ha:a.length<=maxLen):EB (a,b)=some (decide (a=b),()):=by
 show EA BIG _=_;rw [aiJ];by_cases hl:a.length=b.length
 ·rw [ak (by omega),bB,ax,aje a b ha hl false]
  ·by_cases h:a=b<;>simp [h]
  ·intro self i x y hx hy;have hi:=(aZ hx).1;simp only [show ((i:Int)<(a.length:Int)) from by omega,decide_true,ai];rw [aF hi,hx,af,aF (by omega),hy,af,bT (by omega)];obtain ⟨x1,x2⟩:=x;obtain ⟨y1,y2⟩:=y;by_cases h1:x1=y1<;>by_cases h2:x2=y2<;>simp [h1,h2]
  ·intro self;simp
 ·rw [az (by omega),gW,ai,az (fun h=>hl (by rw [h]))]
theorem oO {es:aa Ed} {e x:Ed}:x∈del es e↔x∈es/\x≠e:=by simp [del]
theorem azy {es:aa Ed} {e:Ed} (h:uA es):uA (del es e):=h.filter _
theorem GrOk.ins {n:Int} {es:aa Ed} {e:Ed} (h:GrOk n es) (he:eF n e=true):GrOk n (ins es e):=⟨h.1,h.2.1,acv h.2.2.1,fun x hx=>by
 rcases mG.1 hx with rfl|hx
 ·exact he
 ·exact h.2.2.2 x hx⟩
theorem GrOk.del {n:Int} {es:aa Ed} {e:Ed} (h:GrOk n es):GrOk n (del es e):=⟨h.1,h.2.1,azy h.2.2.1,fun x hx=>h.2.2.2 x (oO.1 hx).1⟩
theorem aBr (a:aa Int):ahQ a=some (decide ((1048576:Int)<(a.length:Int)),()):=aBp BIG a
theorem aqG (c:Bh) (n:Int) (hc:j_ c) (hn:n<=1000000):∃b c',xK (c,n)=some (b,c')/\j_ c':=by
 have e:xK (c,n)=LG BIG (c,n):=rfl;obtain ⟨r,c',k,o,_⟩:=jg c n hc hn;rw [e,aqi,k];exact ⟨_,_,rfl,o⟩
theorem uQ (c:Bh) (l:aa Int) (hc:j_ c) (h0:0<l.length) (hl:l.length<=1000000):∃b c',lq (c,l)=some (b,c')/\j_ c':=by
 have e:lq (c,l)=Bv BIG (c,l):=rfl;obtain ⟨r,c',k,o,a,b,_⟩:=jg c l.length hc (by omega);have b:=b (by omega);rw [e,afF,k,af,bV a b,aR (by omega)];exact ⟨_,_,rfl,o⟩
theorem azz (c:Bh) (hc:j_ c):∃n c',R4 c=some (n,c')/\j_ c'/\2<=n/\n<=12:=by
 have e:R4 c=ab8 BIG c:=rfl;obtain ⟨r,c',k,o,a,b,_⟩:=jg c 11 hc (by omega);have b:=b (by omega);rw [e,azg,k,af,wr (by omega) (by omega)];exact ⟨_,_,rfl,o,by omega,by omega⟩
theorem atZ (n:Int):Qe n=some (if aW n 1 12 then (n,[],true) else (0,[],false),()):=by
 show Qd BIG _=_;rw [atL,iV,af];cases aW n 1 12<;>rfl
theorem at0 (n:Int):Ov n=some (if aW n 1 12 then (n,[],true) else (0,[],false),()):=by
 show Ot BIG _=_;rw [asZ,dH,af];cases aW n 1 12<;>rfl
theorem alQ (a b:Int):IM (a,b)=some (if aW a 1 3&&aW b 1 12 then (a,b,[],0,false,[],[],true) else (0,0,[],0,false,[],[],false),()):=by
 show IL BIG _=_;rw [alD,atZ,iV];cases aW a 1 3<;>cases aW b 1 12<;>rfl
theorem Vq (a b:Int):z8 (a,b)=some (if aW a 1 3&&aW b 1 12 then (a,b,[],0,false,[],[],true) else (0,0,[],0,false,[],[],false),()):=by
 show HZ BIG _=_;rw [akO,at0,dH];cases aW a 1 3<;>cases aW b 1 12<;>rfl
abbrev aC:=Int × Int × Int × Bool
theorem at1 (E:aa aC) (hE:E.length<=4294967295) {n:Int} {F:((Int × aa (Int × Int)) × Int->ah (Int × aa (Int × Int)))->(Int × aa (Int × Int)) × Int->ah (Int × aa (Int × Int))}
  (hF:∀self out (i:Nat) y,E[i]?=some y->F self ((n,out),(i:Int))=bif decide (out.length+1<=4294967296) then self ((n,out++[(y.1,y.2.1)]),((i+1:Nat):Int)) else none)
  (hE':∀self x,F self (x,(E.length:Int))=some x):aJ BIG F ((n,[]),0)=some (n,E.map fun x=>(x.1,x.2.1)):=by
 rw [jS E (by omega) (fun i (s:Int × aa (Int × Int))=>s.1=n/\s.2.length=i) (fun s y=>(s.1,s.2++[(y.1,y.2.1)])) id ⟨rfl,rfl⟩ (fun i s y _ h=>⟨h.1,by simp [h.2]⟩)]
 ·have:∀(l:aa aC) (s:Int × aa (Int × Int)),l.foldl (fun s y=>(s.1,s.2++[(y.1,y.2.1)])) s=(s.1,s.2++l.map fun x=>(x.1,x.2.1)):=by
   intro l;induction l with
   | nil=>intro s;simp
   | cons y l ih=>intro s;rw [gH,ih];simp
  rw [this];simp
 ·rintro self ⟨m,out⟩ i y hy ⟨rfl,h2⟩;simp only at h2;have hi:=(aZ hy).1;rw [hF self out i y hy,ak (by omega),ai]
 ·intro self s _;exact hE' self s
theorem CV (n:Int) (E:aa aC) (hE:E.length<=1048576):lV (n,E)=some ((n,E.map fun x=>(x.1,x.2.1)),()):=by
 have hm:maxLen=9223372036854775807:=by decide
 show LH BIG _=_;rw [aql];dsimp only;rw [at1 E (by omega)]
 ·rfl
 ·intro self out i y hy;have hi:=(aZ hy).1;simp only [show ((i:Int)<(E.length:Int)) from by omega,decide_true,ai];rw [aF hi,hy,af,bT (by omega)];rfl
 ·intro self x;simp
theorem xR (n:Int) (E:aa aC) (hE:E.length<=1048576):lU (n,E)=some ((n,E.map fun x=>(x.1,x.2.1)),()):=by
 have hm:maxLen=9223372036854775807:=by decide
 show KZ BIG _=_;rw [apC];dsimp only;rw [at1 E (by omega)]
 ·rfl
 ·intro self out i y hy;have hi:=(aZ hy).1;simp only [show ((i:Int)<(E.length:Int)) from by omega,decide_true,ai];rw [aF hi,hy,af,aF hi,hy,af,bT (by omega)];rfl
 ·intro self x;simp
theorem awp (x0 x1:Int) (x2:aa aC) (x3:Int) (x4:Bool) (x5:aa Ed) (x6:aa Int) (hE:x2.length<=1048576):LZ (x0,x1,x2,x3,x4,x5,x6)=some (x2.map fun x=>(x.1,x.2.1),()):=by
 show WZ BIG _=_;rw [awn];dsimp only;rw [CV _ _ hE];rfl
theorem anQ (x0:Int) (x1:aa Int) (x2:aa Ed) (x3:aa (aa Int)) (x4:aa Int) (x5 x6 x7 x8 x9 x10 x11:Int) (x12:aa Ed) (x13:Int) (x14:aa (Int × Int × Int × Int × Int × Int)):R7 (x0,x1,x2,x3,x4,x5,x6,x7,x8,x9,x10,x11,x12,x13,x14)=some (!decide (x9=0),()):=azp BIG _
theorem acx (x0:Int) (x1:aa Int) (x2:aa Ed) (x3:aa (aa Int)) (x4:aa Int) (x5 x6 x7 x8 x9 x10 x11:Int) (x12:aa Ed) (x13:Int) (x14:aa (Int × Int × Int × Int × Int × Int)):Da (x0,x1,x2,x3,x4,x5,x6,x7,x8,x9,x10,x11,x12,x13,x14)=some (!decide (x9=0),()):=azi BIG _
theorem rangeLoop {S B:Type} (n:Nat) (hl:n<18446744073709551616) {F:(S × Int->ah B)->S × Int->ah B} (I:Nat->S->Prop) (st:Nat->S->S) (R:S->B) {s0:S} (h0:I 0 s0)
  (hI:∀i s,i<n->I i s->I (i+1) (st i s)) (hF:∀self s (i:Nat),i<n->I i s->F self (s,(i:Int))=self (st i s,((i+1:Nat):Int)))
  (hE:∀self s,I n s->F self (s,(n:Int))=some (R s)):aJ BIG F (s0,0)=some (R ((List.range n).foldl (fun s i=>st i s) s0)):=by
 have hr:∀{i y:Nat},(List.range n)[i]?=some y->i<n/\y=i:=by
  intro i y h;have hi:=(aZ h).1;rw [sJ] at hi;rw [Rm hi] at h;cases h;exact ⟨hi,rfl⟩
 refine jS (List.range n) (by rw [sJ];exact hl) I (fun s i=>st i s) R h0 (fun i s y hy hi => ?_) (fun self s i y hy hi => ?_) (fun self s hs => ?_)
 ·obtain ⟨h1,rfl⟩:=hr hy;exact hI _ _ h1 hi
 ·obtain ⟨h1,rfl⟩:=hr hy;exact hF _ _ _ h1 hi
 ·rw [sJ] at hs ⊢;exact hE _ _ hs
theorem at5 {α:Type} (f:Nat->α) (n:Nat) (s:aa α):(List.range n).foldl (fun s i=>s++[f i]) s=s++(List.range n).map f:=by
 induction n with
 | zero=>simp
 | succ n ih=>rw [List.range_succ,pF,ih];simp
theorem ajk (n:Nat) (hn:n<=1000000) {F:(aa Int × Int->ah (aa Int))->aa Int × Int->ah (aa Int)}
  (hF:∀self out (i:Nat),i<n->out.length=i->F self (out,(i:Int))=self (out++[(i:Int)],((i+1:Nat):Int)))
  (hE:∀self out,F self (out,(n:Int))=some out):aJ BIG F ([],0)=some (pU n):=by
 rw [rangeLoop n (by omega) (fun i (s:aa Int)=>s.length=i) (fun i s=>s++[(i:Int)]) id rfl (fun i s _ h=>by simp [h]) (fun self s i hi h=>hF self s i hi h) (fun self s _=>hE self s),at5];rfl
theorem Mh (n:Nat) (hn:n<=1000000):zq (n:Int)=some (pU n,()):=by
 have hm:maxLen=9223372036854775807:=by decide
 show WE BIG _=_;rw [av3,ajk n hn]
 ·rfl
 ·intro self out i hi hl;simp only [show ((i:Int)<(n:Int)) from by omega,decide_true,ai];rw [ak (by simp;omega),ai,bT (by omega)]
 ·intro self out;simp
theorem aqH (E:aa (Int × Int)) (n:Nat):∀l:aa Int,(List.range n).foldl (fun s _=>lrnd E s) l=Ma E n l:=by
 have:∀(m:Nat) (l:aa Int),Ma E (m+1) l=lrnd E (Ma E m l):=by
  intro m;induction m with
  | zero=>intro l;rfl
  | succ m ih=>intro l;show Ma E (m+1) (lrnd E l)=_;rw [ih];rfl
 induction n with
 | zero=>intro l;rfl
 | succ n ih=>intro l;rw [List.range_succ,pF,ih,this];rfl
theorem E8 (n:Nat) (E:aa (Int × Int)) (hn:n<=12) (hE:oN n E) (hl:E.length<=4611686018427387904):xe ((n:Int),E)=some (labs n E,()):=by
 have hm:maxLen=9223372036854775807:=by decide
 show DU BIG _=_;rw [ahV,ajk n (by omega)]
 ·rw [af,rangeLoop n (by omega) (fun i (s:aa Int)=>s.length=n) (fun _ s=>lrnd E s) id (vI n) (fun i s _ h=>by rw [ajh];exact h)]
  ·rw [aqH,aqD hE];rfl
  ·intro self s i hi hs;simp only [show ((i:Int)<(n:Int)) from by omega,decide_true,ai];rw [jS E (by omega) (fun _ (s:aa Int)=>s.length=n) rlE id hs (fun i s y _ h=>by rw [anM];exact h)]
   ·rw [af,bT (by omega)];rfl
   ·intro self s i y hy hs;have hi:=(aZ hy).1;obtain ⟨h1,h2,h3,h4⟩:=hE y (eY hy);have i1:y.1.toNat<s.length:=by omega
    have i2:y.2.toNat<s.length:=by omega
    simp only [show ((i:Int)<(E.length:Int)) from by omega,decide_true,ai];rw [bT (by omega),aF hi,hy,af,bV h1 (by omega),getD_at i1,af,aF hi,hy,af,bV h3 (by omega),getD_at i2,af];unfold rlE;simp only;by_cases c1:s.getD y.1.toNat 0<s.getD y.2.toNat 0
    ·rw [ak c1,ai,aF hi,hy,af,bV h3 (by omega),getD_at i2,af,af,az (by omega),ax,if_pos c1,if_neg (by omega)];rfl
    ·rw [az c1,ax,af,if_neg c1];by_cases c2:s.getD y.2.toNat 0<s.getD y.1.toNat 0
     ·rw [ak c2,ai,aF hi,hy,af,bV h1 (by omega),getD_at i1,af,if_pos c2];rfl
     ·rw [az c2,ax,if_neg c2];rfl
   ·intro self s _;simp
  ·intro self s _;simp
 ·intro self out i hi hl;simp only [show ((i:Int)<(n:Int)) from by omega,decide_true,ai];rw [ak (by simp;omega),ai,bT (by omega)]
 ·intro self out;simp
abbrev Hd:=Int × List Int × List (Int × Int) × List (List Int) × List Int × Int × Int × Int × Int × Int × Int × Int × List (Int × Int) × Int × List (Int × Int × Int × Int × Int × Int)
def IZ (n k:Nat):aa Int:=(List.range n).map fun (i:Nat)=>1+Int.tmod (i:Int) k
def hdN (n k:Nat):Hd:=((n:Int),IZ n k,[],List.replicate k (pU n),List.replicate k 0,0,0,0,0,0,0,0,[],0,[])
theorem ajl (f:Nat->Int) (n:Nat) (s:Hd):(List.range n).foldl (fun (s:Hd) i=>(s.1,s.2.1++[f i],s.2.2)) s=(s.1,s.2.1++(List.range n).map f,s.2.2):=by
 induction n with
 | zero=>simp
 | succ n ih=>rw [List.range_succ,pF,ih];simp
theorem ajm (L:aa Int) (n:Nat) (s:Hd):(List.range n).foldl (fun (s:Hd) i=>(s.1,s.2.1,s.2.2.1,s.2.2.2.1++[L],s.2.2.2.2)) s=(s.1,s.2.1,s.2.2.1,s.2.2.2.1++List.replicate n L,s.2.2.2.2):=by
 induction n with
 | zero=>simp
 | succ n ih=>rw [List.range_succ,pF,ih,List.replicate_succ'];simp
theorem at6 (L:aa Int) (n:Nat) (s:Hd):(List.range n).foldl (fun (s:Hd) i=>(s.1,s.2.1,s.2.2.1,s.2.2.2.1++[L],s.2.2.2.2.1++[0],s.2.2.2.2.2)) s=(s.1,s.2.1,s.2.2.1,s.2.2.2.1++List.replicate n L,s.2.2.2.2.1++List.replicate n 0,s.2.2.2.2.2):=by
 induction n with
 | zero=>simp
 | succ n ih=>rw [List.range_succ,pF,ih,List.replicate_succ',List.replicate_succ'];simp
theorem ajn {i k:Nat} (hk:1<=k) (nY:k<=3):0<=Int.tmod (i:Int) k/\Int.tmod (i:Int) k<3:=by
 rw [Int.tmod_eq_emod_of_nonneg (by omega)];have h1:=Int.emod_nonneg (i:Int) (show (k:Int)≠0 from by omega);have h2:=Int.emod_lt_of_pos (i:Int) (show (0:Int)<(k:Int) from by omega);omega
theorem aaY (n k:Int):∃r:Hd × Bool,r=(if aW n 1 12&&aW k 1 3 then (hdN n.toNat k.toNat,true) else ((0,[],[],[],[],0,0,0,0,0,0,0,[],0,[]),false)) /\
  CK (n,k)=some ((r.1.1,r.1.2.1,r.1.2.2.1,r.1.2.2.2.1,r.1.2.2.2.2.1,r.1.2.2.2.2.2.1,r.1.2.2.2.2.2.2.1,r.1.2.2.2.2.2.2.2.1,r.1.2.2.2.2.2.2.2.2.1,r.1.2.2.2.2.2.2.2.2.2.1,r.1.2.2.2.2.2.2.2.2.2.2.1,r.1.2.2.2.2.2.2.2.2.2.2.2.1,r.1.2.2.2.2.2.2.2.2.2.2.2.2.1,r.1.2.2.2.2.2.2.2.2.2.2.2.2.2.1,r.1.2.2.2.2.2.2.2.2.2.2.2.2.2.2,r.2),()) /\
  tq (n,k)=some ((r.1.1,r.1.2.1,r.1.2.2.1,r.1.2.2.2.1,r.1.2.2.2.2.1,r.1.2.2.2.2.2.1,r.1.2.2.2.2.2.2.1,r.1.2.2.2.2.2.2.2.1,r.1.2.2.2.2.2.2.2.2.1,r.1.2.2.2.2.2.2.2.2.2.1,r.1.2.2.2.2.2.2.2.2.2.2.1,r.1.2.2.2.2.2.2.2.2.2.2.2.1,r.1.2.2.2.2.2.2.2.2.2.2.2.2.1,r.1.2.2.2.2.2.2.2.2.2.2.2.2.2.1,r.1.2.2.2.2.2.2.2.2.2.2.2.2.2.2,r.2),()):=by
 have hm:maxLen=9223372036854775807:=by decide
 refine ⟨_,rfl,?_⟩;have hi:CK (n,k)=Lr BIG (n,k):=rfl;have hs:tq (n,k)=Cs BIG (n,k):=rfl;rw [hi,hs,ap6,YI,iV,dH,iV,dH];simp only [af];cases hn:aW n 1 12 with
 | false=>exact ⟨rfl,rfl⟩
 | true=>
  simp only [bB,ax,af];cases hk:aW k 1 3 with
  | false=>exact ⟨rfl,rfl⟩
  | true=>
   rw [aV] at hn hk;obtain ⟨N,rfl⟩:∃N:Nat,n=N:=⟨n.toNat,by omega⟩
   obtain ⟨K,rfl⟩:∃K:Nat,k=K:=⟨k.toNat,by omega⟩
   simp only [bB,ax,il,wF,if_true];have g1:∀(s0:Hd),s0.2.1=[]->∀F:(Hd × Int->ah Hd)->Hd × Int->ah Hd,
     (∀self (s:Hd) (i:Nat),i<N->s.2.1.length=i->F self (s,(i:Int))=self ((s.1,s.2.1++[1+Int.tmod (i:Int) K],s.2.2),((i+1:Nat):Int)))->(∀self s,F self (s,(N:Int))=some s) ->
     aJ BIG F (s0,0)=some (s0.1,IZ N K,s0.2.2):=by
    intro s0 h0 F hF hE;rw [rangeLoop N (by omega) (fun i (s:Hd)=>s.2.1.length=i) (fun i s=>(s.1,s.2.1++[1+Int.tmod (i:Int) K],s.2.2)) id (by rw [h0];rfl) (fun i s _ h=>by simp [h]) (fun self s i hi h=>hF self s i hi h) (fun self s _=>hE self s),ajl,h0];rfl
   constructor
   ·rw [g1 _ rfl]
    ·rw [af,rangeLoop K (by omega) (fun i (s:Hd)=>s.2.2.2.1.length=i/\s.2.2.2.2.1.length=i) (fun _ s=>(s.1,s.2.1,s.2.2.1,s.2.2.2.1++[pU N],s.2.2.2.2.1++[0],s.2.2.2.2.2)) id ⟨rfl,rfl⟩ (fun i s _ h=>by simp [h.1,h.2])]
     ·rw [at6];rfl
     ·intro self s i hi ⟨mY,Fy⟩;simp only [show ((i:Int)<(K:Int)) from by omega,decide_true,ai];rw [Mh N (by omega),af,ak (by simp;omega),ai,ak (by simp;omega),ai,bT (by omega)]
     ·intro self s _;simp
    ·intro self s i hi hs;have:=ajn (i:=i) (k:=K) (by omega) (by omega);simp only [show ((i:Int)<(N:Int)) from by omega,decide_true,ai];rw [az (by omega),ax,wr (by omega) (by omega),ak (by simp;omega),ai,bT (by omega)]
    ·intro self s;simp
   ·rw [ak (by omega),ai,ak (by omega),ai,g1 _ rfl]
    ·rw [af,rangeLoop K (by omega) (fun i (s:Hd)=>s.2.2.2.1.length=i) (fun _ s=>(s.1,s.2.1,s.2.2.1,s.2.2.2.1++[pU N],s.2.2.2.2)) id rfl (fun i s _ h=>by simp [h])]
     ·rw [ajm];rfl
     ·intro self s i hi mY;simp only [show ((i:Int)<(K:Int)) from by omega,decide_true,ai];rw [E8 N [] (by omega) (fun e he=>by cases he) (by simp),af,ak (by simp;omega),ai,bT (by omega)];rfl
     ·intro self s _;simp
    ·intro self s i hi hs;have:=ajn (i:=i) (k:=K) (by omega) (by omega);simp only [show ((i:Int)<(N:Int)) from by omega,decide_true,ai];rw [az (by omega),ax,wr (by omega) (by omega),ak (by simp;omega),ai,bT (by omega)]
    ·intro self s;simp
def jT (n:Int) (es:aa Ed):Bool:=aW n 1 12&&mg n es
theorem aaZ (n:Int) (es:aa Ed) (hl:es.length<=1048576):CP (n,es)=some (jT n es,()):=by
 show LJ BIG _=_;rw [aqn,iV,CU n es hl];unfold jT;cases aW n 1 12<;>rfl
theorem aa0 (n:Int) (es:aa Ed) (hl:es.length<=1048576):Cz (n,es)=some (jT n es,()):=by
 show K3 BIG _=_;rw [apE,dH,Ao n es hl];unfold jT;cases aW n 1 12<;>rfl
theorem lc {n:Int} {es:aa Ed} (h:mg n es=true):(∀e,e∈es->eF n e=true)/\uA es/\es.length<=66:=by
 have hl:=jV h;unfold mg at h;split at h;case isFalse=>cases h
 case isTrue hp=>
 have hc:∀i (h:i+1<es.length),eF n es[i+1]=true/\lsB es[i] es[i+1]=true:=by
  intro i hi;have:=hp (i+1) hi;rw [aqF (aR hi) (aR (by omega)),aU] at this;exact this
 have h0:∀i (h:i<es.length),eF n es[i]=true:=by
  intro i hi;cases i with
  | zero=>have:=hp 0 hi;rwa [aqE (aR hi)] at this
  | succ i=>exact (hc i hi).1
 refine ⟨fun e he => ?_,Rj.2 fun i j hi hj wC => ?_,hl⟩
 ·obtain ⟨i,hi,rfl⟩:=zW he;exact h0 i hi
 ·have:∀d (h:i+1+d<es.length),lsB es[i] es[i+1+d]=true:=by
   intro d;induction d with
   | zero=>intro h;exact (hc i h).2
   | succ d ih=>intro h;exact Bf (ih (by omega)) (hc (i+1+d) h).2
  have:=this (j-(i+1)) (by omega);simpa [show i+1+(j-(i+1))=j from by omega] using this
theorem fK {n:Nat} {e:Ed} (h:eF (n:Int) e=true):0<=e.1/\e.1<n/\0<=e.2/\e.2<n/\e.1<e.2:=by
 simp only [eF,aU,aV,decide_eq_true_eq] at h;omega
theorem azA {α:Type} (a:aa α) (f:α->α) (hl:a.length<18446744073709551616) {F:(aa α × Int->ah (aa α))->aa α × Int->ah (aa α)}
  (hF:∀self out (i:Nat) y,out.length=a.length->out[i]?=some y->a[i]?=some y->F self (out,(i:Int))=self (out.set i (f y),((i+1:Nat):Int)))
  (hE:∀self out,out.length=a.length->F self (out,(a.length:Int))=some out):aJ BIG F (a,0)=some (a.map f):=by
 have:=ky (F:=F) (fun x=>∃i:Nat,x.2=i/\i<=a.length/\x.1=(a.map f).take i++a.drop i) (fun x=>a.length-x.2.toNat) (fun _=>a.map f) (fun self x ⟨i,h1,h2,h3⟩ hs => ?_) (n:=BIG) (x:=(a,0)) (by simp;exact hl) ⟨0,rfl,by simp,by simp⟩
 ·exact this
 ·obtain ⟨out,j⟩:=x;simp only at h1 h3;subst h1;have bN:out.length=a.length:=by rw [h3];simp;omega
  by_cases hi:i<a.length
  ·have hy:=aR hi;have ho:out[i]?=some a[i]:=by
    rw [h3,uT (by simp;omega)];simp [Nat.min_eq_left (show i<=a.length from by omega)]
   rw [hF self out i a[i] bN ho hy];have e:=afZ (a:=a) (t:=a.map f) (i:=i) (z:=f a[i]) (by simp) hi (by simp [hi]);rw [<-h3] at e;exact hs _ ⟨i+1,rfl,hi,e⟩ (by simp;omega)
  ·have:i=a.length:=by omega
   subst this;rw [hE self out bN,h3];simp [Rk]
theorem set_self {α:Type} {l:aa α} {i:Nat} {y:α} (h:l[i]?=some y):l.set i y=l:=by
 apply XG;intro j;rw [Cg];split
 ·subst j;have:=(aZ h).1;simp [this,h.symm]
 ·rfl
theorem Mi (l:aa Int) (a b:Int) (ha:0<=a) (G7:a<l.length) (hb:0<=b) (b_:b<l.length) (hl:l.length<=1048576) :
  zu (l,a,b)=some (!decide (l.getD a.toNat 0=l.getD b.toNat 0),unE l (a,b)):=by
 have hm:maxLen=9223372036854775807:=by decide
 show WL BIG _=_;rw [av9,bV ha G7,getD_at (by omega),af,bV hb b_,getD_at (by omega),af];unfold unE;simp only;generalize l.getD a.toNat 0=x;generalize l.getD b.toNat 0=y;by_cases h:x=y
 ·subst h;rw [ak rfl,ai,ajg];rfl
 ·rw [az h,ax,azA l (fun z=>if z=(if y > x then y else x) then (if y<x then y else x) else z) (by omega)]
  ·rfl
  ·intro self out i z hlo ho hz;have hi:=(aZ hz).1;simp only [show ((i:Int)<(l.length:Int)) from by omega,decide_true,ai];rw [aF (by omega),ho,af,bT (by omega)];by_cases hc:z=(if y > x then y else x)
   ·rw [ak hc,ai,aF (by omega),ho,af,if_pos hc];rfl
   ·rw [az hc,ax,if_neg hc,set_self ho];rfl
  ·intro self out hlo;simp
def tgB (n:Int) (es:aa Ed) (a b:Int):Bool:=jT n es&&(aW a 0 (n-1)&&(aW b 0 (n-1)&&decide ((labs n.toNat es).getD a.toNat 0=(labs n.toNat es).getD b.toNat 0)))
def Mj (n:Int) (es:aa Ed) (e:Ed):Int × aa Ed × Bool:=if jT n es&&(eF n e && !decide (e∈es)) then (n,ins es e,true) else (0,[],false)
def aqI (n:Int) (es:aa Ed) (e:Ed):Int × aa Ed × Bool:=if jT n es&&decide (e∈es) then (n,del es e,true) else (0,[],false)
theorem aqJ (n:Int) (es:aa Ed) (e:Ed) (hl:es.length<=1048576):L8 ((n,es),e)=some (Mj n es e,()):=by
 have hm:maxLen=9223372036854775807:=by decide
 show L6 BIG _=_;rw [aqz,aaZ n es hl,QI,aaX n es e (by omega),IY es e hl];unfold Mj;cases hg:jT n es with
 | false=>rfl
 | true=>
  cases he:eF n e with
  | false=>rfl
  | true=>
   by_cases bn:e∈es
   ·rw [ak bn];rfl
   ·simp only [jT,aU] at hg;rw [az bn,acw (lc hg.2).2.1 bn];rfl
theorem aqK (n:Int) (es:aa Ed) (e:Ed) (hl:es.length<=1048576):Lj ((n,es),e)=some (Mj n es e,()):=by
 have hm:maxLen=9223372036854775807:=by decide
 show Li BIG _=_;rw [apW,aa0 n es hl,GG,aaW n es e (by omega),QL es e hl];unfold Mj;cases hg:jT n es with
 | false=>rfl
 | true=>
  cases he:eF n e with
  | false=>rfl
  | true=>cases decide (e∈es)<;>rfl
theorem Nj (es:aa Ed) (e:Ed) (hl:es.length<=1048576):uM (es,e)=some (del es e,()):=by
 have hm:maxLen=9223372036854775807:=by decide
 show Bw BIG _=_;rw [afI,jS es (by omega) (fun i (c:aa Ed)=>c.length<=i) (fun c y=>if (!decide (y=e)) then c++[y] else c) id (by simp) (fun i c y _ (h:c.length<=i)=>by show List.length (if _ then _ else _)<=_;split<;>(try simp)<;>omega)]
 ·rw [mR];rfl
 ·intro self c i y hy (hc:c.length<=i);have hi:=(aZ hy).1;simp only [show ((i:Int)<(es.length:Int)) from by omega,decide_true,ai];rw [aF hi,hy,af,bT (by omega)];have hd:(decide (y.1=e.1)&&(decide (y.2=e.2)&&true))=decide (y=e):=by
   obtain ⟨y1,y2⟩:=y;obtain ⟨e1,e2⟩:=e;by_cases h1:y1=e1<;>by_cases h2:y2=e2<;>simp [h1,h2]
  rw [hd];cases decide (y=e) with
  | true=>simp
  | false=>simp [aF hi,hy,show c.length+1<=4294967296 from by omega]
 ·intro self c hc;simp
theorem JU (es:aa Ed) (e:Ed) (hl:es.length<=1048576):tF (es,e)=some (del es e,()):=by
 have hm:maxLen=9223372036854775807:=by decide
 show zz BIG _=_;rw [aco,jS es (by omega) (fun i (c:aa Ed)=>c.length<=i) (fun c y=>if (!decide (y=e)) then c++[y] else c) id (by simp) (fun i c y _ (h:c.length<=i)=>by show List.length (if _ then _ else _)<=_;split<;>(try simp)<;>omega)]
 ·rw [mR];rfl
 ·intro self c i y hy (hc:c.length<=i);have hi:=(aZ hy).1;simp only [show ((i:Int)<(es.length:Int)) from by omega,decide_true,ai];rw [aF hi,hy,af,bT (by omega)];have hd:(decide (y.1=e.1)&&(decide (y.2=e.2)&&true))=decide (y=e):=by
   obtain ⟨y1,y2⟩:=y;obtain ⟨e1,e2⟩:=e;by_cases h1:y1=e1<;>by_cases h2:y2=e2<;>simp [h1,h2]
  rw [hd];cases decide (y=e) with
  | true=>simp
  | false=>simp [show c.length+1<=4294967296 from by omega]
 ·intro self c hc;simp
def gF (a b:Int):Ed:=if a<b then (a,b) else (b,a)
theorem at7 (i o a b:Int):PS (i,o,a,b)=some (gF a b,()):=by
 show PR BIG _=_;rw [atH];unfold gF;dsimp only;by_cases h:a<b
 ·rw [if_neg (by omega),if_pos (by omega),if_pos h]
 ·rw [if_neg h];by_cases h':b<a
  ·rw [if_pos h',if_neg (by omega)]
  ·rw [if_neg h',if_neg (by omega),show a=b from by omega]
theorem aqL (i o a b:Int):KX (i,o,a,b)=some (gF a b,()):=by
 show KW BIG _=_;rw [apA];unfold gF;dsimp only;by_cases h:a<b
 ·rw [ak h,ai,if_pos h]
 ·rw [az h,ax,if_neg h]
theorem E9 (es:aa Ed) (hl:es.length<=1048576):r_ es=some (es,()):=by
 show Eo BIG _=_;rw [ain,ak (by omega)];rfl
theorem ajo (b:Bool):LD b=some (if b then 1 else 2,()):=by
 show WM BIG _=_;rw [awc];cases b<;>rfl
def yG (n:Int) (es:aa Ed) (o a b:Int):Int × aa Ed × Int:=
 if aW o 1 4&&(decide (0<=a)&&decide (a<n)) then
  if o=4 then (n,es,if aW b 1 3 then 1 else 3)
  else if (decide (0<=b)&&decide (b<n)) && !(decide (a=b) && !decide (o=3)) then
   if o=3 then (n,es,if tgB n es a b then 1 else 2)
   else
    let r:=if o=2 then aqI n es (gF a b) else Mj n es (gF a b)
    if r.2.2 then (r.1,r.2.1,1) else (n,es,2)
  else (n,es,3)
 else (n,es,3)
theorem ax2 {α S T X B:Type} (a:aa α) (hl:a.length<18446744073709551616) {F:(X->ah (T ⊕ B))->X->ah (T ⊕ B)} (mk:S->Int->X) (I:Nat->S->Prop) (st:S->α->ah S) (R:S->T) (b:B) {s0:S} (h0:I 0 s0)
  (hI:∀i s s' y,a[i]?=some y->I i s->st s y=some s'->I (i+1) s') (hF:∀self s (i:Nat) y,a[i]?=some y->I i s->F self (mk s (i:Int))=match st s y with|some s'=>self (mk s' ((i+1:Nat):Int))|none=>some (.inr b))
  (hE:∀self s,I a.length s->F self (mk s (a.length:Int))=some (.inl (R s))):aJ BIG F (mk s0 0)=some (match fM st s0 a with|some s=>.inl (R s)|none=>.inr b):=by
 have key:∀(k n i:Nat) (s:S),a.length-i<=k->k<n->i<=a.length->I i s->it F n (mk s (i:Int))=some (match fM st s (a.drop i) with|some s=>.inl (R s)|none=>.inr b):=by
  intro k;induction k with
  | zero=>
   intro n i s hk hn hi hs;obtain ⟨m,rfl⟩:∃m,n=m+1:=⟨n-1,by omega⟩
   have:i=a.length:=by omega
   subst this;show F (it F m) _=_;rw [hE _ _ hs,List.drop_length];rfl
  | succ k ih=>
   intro n i s hk hn hi hs;obtain ⟨m,rfl⟩:∃m,n=m+1:=⟨n-1,by omega⟩
   show F (it F m) _=_;by_cases jv:i<a.length
   ·have hy:=aR jv;rw [hF _ _ _ _ hy hs,uU jv];cases gP:st s a[i] with
    | none=>simp only [fM,gP,Option.bind_none]
    | some s'=>
     simp only;rw [ih m (i+1) _ (by omega) (by omega) jv (hI _ _ _ _ hy hs gP)];simp only [fM,gP,af]
   ·have:i=a.length:=by omega
    subst this;rw [hE _ _ hs,List.drop_length];rfl
 have:=key a.length BIG 0 s0 (by omega) (by simpa [BIG] using hl) (by omega) h0;show it F BIG (mk s0 0)=_;simpa using this
def by8 (n:Int):UInt8:=UInt8.ofNat (n % 256).toNat
def vF:Nat->Nat->aa UInt8
 | 0,v=>[by8 (v:Int)]
 | k+1,v=>if v<=127 then [by8 (v:Int)] else by8 ((v % 128+128:Nat):Int)::vF k (v / 128)
def vB (v:Nat):aa UInt8:=vF 9 v
def e2 (e:Ed):aa UInt8:=[by8 e.1,by8 e.2]
theorem acy {n:Int} {a:An} (h:pW n a=true):1<=n/\n<=12/\1<=a.1/\a.1<=100000/\mg n a.2.2.1=true/\(a.2.2.2.length:Int)=n/\sj n a.2.2.2=true:=by
 unfold pW at h;simp only [aU,aV] at h;obtain ⟨hn,h1,h2,h3⟩:=h;have h3':=h3;unfold sj at h3;split at h3
 ·rename_i hl;exact ⟨hn.1,hn.2,h1.1,h1.2,h2,hl,h3'⟩
 ·cases h3
def dec:Nat->aa UInt8->ah (Nat × Nat)
 | 0,_=>none
 | _+1,[]=>none
 | k+1,b::l=>if b.toNat<128 then some (b.toNat,1) else (dec k l).map fun r=>(b.toNat-128+128*r.1,r.2+1)
def rdV (l:aa UInt8):ah (Nat × Nat):=match dec 5 l with
 | some (v,m)=>if v<=1000000000/\vB v=l.take m then some (v,m) else none
 | none=>none
abbrev St:=Nat × Bool
def nm (T:aa UInt8) (s:St):Int × St:=
 if s.2 then (0,(s.1,true)) else match rdV (T.drop s.1) with
 | some (v,m)=>((v:Int),(s.1+m,false))
 | none=>(0,(s.1,true))
def on (T:aa UInt8) (s:St):Int × St:=
 if s.2 then (0,(s.1,true)) else match T[s.1]? with
 | some b=>((b.toNat:Int),(s.1+1,false))
 | none=>(0,(s.1,true))
def edF (T:aa UInt8):Nat->St->aa Ed->St × aa Ed
 | 0,s,out=>(s,out)
 | k+1,s,out=>if s.2 then (s,out) else edF T k (on T (on T s).2).2 (out++[((on T s).1,(on T (on T s).2).1)])
def q0 (T:aa UInt8):Int × St:=nm T (0,false)
def q1 (T:aa UInt8):Int × St:=on T (q0 T).2
def q2 (T:aa UInt8):Int × St:=nm T (q1 T).2
def q3 (T:aa UInt8) (K:Nat):St × aa Ed:=edF T K (nm T (q2 T).2).2 []
def lbF (T:aa UInt8):Nat->St->aa Int->St × aa Int
 | 0,s,out=>(s,out)
 | k+1,s,out=>lbF T k (on T s).2 (out++[(on T s).1])
def q4 (T:aa UInt8) (K:Nat):St × aa Ed:=edF T K (nm T (q1 T).2).2 []
def q5 (T:aa UInt8) (K N:Nat):St × aa Int:=lbF T N (q4 T K).1 []
theorem GH (a b:aa Ed) (ha:a.length<=maxLen):qY (a,b)=some (decide (a=b),()):=by
 show xu BIG _=_;rw [YZ];by_cases hl:a.length=b.length
 ·rw [ak (by omega),bB,ax,aje a b ha hl false]
  ·by_cases h:a=b<;>simp [h]
  ·intro self i x y hx hy;have hi:=(aZ hx).1;simp only [show ((i:Int)<(a.length:Int)) from by omega,decide_true,ai];rw [aF hi,hx,af,aF (by omega),hy,af,bT (by omega)];obtain ⟨x1,x2⟩:=x;obtain ⟨y1,y2⟩:=y;by_cases h1:x1=y1<;>by_cases h2:x2=y2<;>simp [h1,h2]
  ·intro self;simp
 ·rw [az (by omega),gW,ai,az (fun h=>hl (by rw [h]))]
theorem tH (a b:aa Int) (ha:a.length<=maxLen):tu (a,b)=some (decide (a=b),()):=by
 show oL BIG _=_;rw [zl];by_cases hl:a.length=b.length
 ·rw [ak (by omega),bB,ax,aje a b ha hl false]
  ·by_cases h:a=b<;>simp [h]
  ·intro self i x y hx hy;have hi:=(aZ hx).1;simp only [show ((i:Int)<(a.length:Int)) from by omega,decide_true,ai];rw [aF hi,hx,af,aF (by omega),hy,af,bT (by omega)];by_cases h1:x=y<;>simp [h1]
  ·intro self;simp
 ·rw [az (by omega),gW,ai,az (fun h=>hl (by rw [h]))]
def blA (a:An):Bool:=decide (a.1=0)&&(!a.2.1&&(decide (a.2.2.1.length=0)&&decide (a.2.2.2.length=0)))
def blO (o:Be):Bool:=decide (o.1=0)&&(decide (o.2.1=0)&&(decide (o.2.2.1.length=0)&&decide (o.2.2.2=0)))
def blQ (a b c d:Int):Bool:=decide (a=0)&&(decide (b=0)&&(decide (c=0)&&decide (d=0)))
theorem ajp {α:Type} (l:aa α):decide ((l.length:Int)=0)=decide (l.length=0):=decide_eq_decide.2 (by omega)
theorem alR (a:An):IR a=some (blA a,()):=by
 show IQ BIG _=_;rw [alI,ajp,ajp];unfold blA;cases decide (a.1=0)<;>cases a.2.1<;>cases decide (a.2.2.1.length=0)<;>rfl
theorem acz {α:Type} [DecidableEq α] (l:aa α):decide (l=[])=decide (l.length=0):=decide_eq_decide.2 qL.symm
theorem alS (a:An) (h1:a.2.2.1.length<=maxLen) (h2:a.2.2.2.length<=maxLen):Ig a=some (blA a,()):=by
 show Ie BIG _=_;rw [ak2];have:vo (a,((0:Int),false,[],[]))=vk BIG (a,((0:Int),false,[],[])):=rfl;rw [this,Wy];dsimp only;rw [GH _ _ h1,tH _ _ h2,acz,acz];unfold blA;cases decide (a.1=0)<;>cases a.2.1<;>cases decide (a.2.2.1.length=0)<;>rfl
abbrev Rc:=Int × Int × Int × Int × Int × Int × Int × Bool × List (Int × Int) × List Int × Int × Int × List (Int × Int) × Int
theorem ax3 (a b c d:Int):(decide (a=0)&&(decide (b=0)&&(decide (c=0)&&(decide (d=0)&&true))))=blQ a b c d:=by simp [blQ]
theorem aub {α:Type} (a:aa α) (hl:a.length<18446744073709551616) (p:α->Bool) {F:(Int->ah (Unit ⊕ Int))->Int->ah (Unit ⊕ Int)}
  (hF:∀self (i:Nat) y,a[i]?=some y->F self (i:Int)=if p y then some (.inr (i:Int)) else self ((i+1:Nat):Int))
  (hE:∀self,F self (a.length:Int)=some (.inl ())):aJ BIG F 0=some (if a.findIdx p<a.length then .inr (a.findIdx p:Int) else .inl ()):=by
 refine ky (fun (x:Int)=>∃i:Nat,x=(i:Int)/\i<=a.length/\∀j (hj:j<a.length),j<i->p a[j]=false) (fun x=>a.length-x.toNat) (fun _=>_) (fun self x ⟨i,h1,h2,h3⟩ hs => ?_) (n:=BIG) (x:=0) (by simp;exact hl) ⟨0,rfl,by simp,fun j _ hj=>by omega⟩;subst h1;by_cases hi:i<a.length
 ·rw [hF self i a[i] (aR hi)];cases hp:p a[i] with
  | true=>
   have:a.findIdx p=i:=(List.findIdx_eq hi).2 ⟨hp,fun j hj=>h3 j (by omega) hj⟩;rw [if_pos rfl,this,if_pos hi]
  | false=>
   rw [if_neg (by simp)];exact hs _ ⟨i+1,rfl,hi,fun j hj ik=>by
    by_cases hj':j=i
    ·subst hj';exact hp
    ·exact h3 j hj (by omega)⟩ (by simp;omega)
 ·have he:i=a.length:=by omega
  subst he;rw [hE,if_neg];intro h;have h4:=af5.1 h;obtain ⟨x,hx,hpx⟩:=h4;obtain ⟨j,hj,rfl⟩:=zW hx;rw [h3 j hj hj] at hpx;cases hpx
def sA (l:aa Sd) (k:Int):Int:=if l.findIdx (fun y=>decide (y.1=k))<l.length then (l.findIdx (fun y=>decide (y.1=k)):Int) else -1
theorem QO (l:aa Sd) (k:Int) (hl:l.length<=1048576):Bd (l,k)=some (sA l k,()):=by
 have hm:maxLen=9223372036854775807:=by decide
 show Px BIG _=_;rw [atu];rw [aub l (by omega) (fun y=>decide (y.1=k))]
 ·unfold sA;split<;>rfl
 ·intro self i y hy;have hi:=(aZ hy).1;simp only [show ((i:Int)<(l.length:Int)) from by omega,decide_true,ai];rw [aF hi,hy,af,bT (by omega)];cases decide (y.1=k)<;>rfl
 ·intro self;simp
theorem Mk (x0:Int) (x1:aa Int) (x2:aa Ed) (x3:aa (aa Int)) (x4:aa Int) (x5 x6 x7 x8 x9 x10 x11:Int) (x12:aa Ed) (x13:Int) (l:aa Sd) (k:Int) (hl:l.length<=1048576):xq ((x0,x1,x2,x3,x4,x5,x6,x7,x8,x9,x10,x11,x12,x13,l),k)=some (sA l k,()):=by
 have hm:maxLen=9223372036854775807:=by decide
 show KP BIG _=_;rw [apu];dsimp only;rw [aub l (by omega) (fun y=>decide (y.1=k))]
 ·unfold sA;split<;>rfl
 ·intro self i y hy;have hi:=(aZ hy).1;simp only [show ((i:Int)<(l.length:Int)) from by omega,decide_true,ai];rw [aF hi,hy,af,bT (by omega)];cases decide (y.1=k)<;>rfl
 ·intro self;simp
theorem azB {l:aa Sd} {i:Nat} {y:Sd} (h:l[i]?=some y):decide (0<=sA (l.take i) y.1) = !decide (sA l y.1=(i:Int)):=by
 obtain ⟨hi,rfl⟩:=aZ h;have bR:l.findIdx (fun z=>decide (z.1=(l[i]).1))<l.length:=af5.2 ⟨l[i],nH hi,by simp⟩;have cZ:l.findIdx (fun z=>decide (z.1=(l[i]).1))<=i:=by
  by_cases hc:i<l.findIdx (fun z=>decide (z.1=(l[i]).1))
  ·have:=List.not_of_lt_findIdx hc;simp at this
  ·omega
 unfold sA;rw [if_pos bR];by_cases he:l.findIdx (fun z=>decide (z.1=(l[i]).1))=i
 ·rw [if_neg]
  ·simp [he]
  ·intro hc;obtain ⟨z,hz,hp⟩:=af5.1 hc;obtain ⟨j,hj,rfl⟩:=zW hz;rw [iy] at hj;have:=List.not_of_lt_findIdx (xs:=l) (p:=fun z=>decide (z.1=(l[i]).1)) (i:=j) (by omega);rw [List.getElem_take] at hp;rw [this] at hp;cases hp
 ·have hc:(l.take i).findIdx (fun z=>decide (z.1=(l[i]).1))<(l.take i).length:=by
   refine af5.2 ⟨l[l.findIdx (fun z=>decide (z.1=(l[i]).1))],?_,by exact XB (xs:=l) (p:=fun z=>decide (z.1=(l[i]).1)) (w:=bR)⟩;refine FI.2 ⟨l.findIdx (fun z=>decide (z.1=(l[i]).1)),by rw [iy];omega,?_⟩;rw [List.getElem_take]
  rw [if_pos hc,ak (by omega),az (by omega)];rfl
def tB (a b c d sh:Int) (o:Be):Bool:=blQ a b c d&&(decide (sh=0)&&blO o)
theorem auc (a b c d sh:Int) (o:Be):PE (a,b,c,d,sh,o)=some (tB a b c d sh o,()):=by
 show PD BIG _=_;rw [aty,ajp];dsimp only;rw [ax3];unfold tB blO;cases blQ a b c d<;>cases decide (sh=0)<;>cases decide (o.1=0)<;>cases decide (o.2.1=0)<;>cases decide (o.2.2.1.length=0)<;>rfl
theorem aa2 (a b c d sh:Int) (o:Be) (h1:o.2.2.1.length<=maxLen):xA (a,b,c,d,sh,o)=some (tB a b c d sh o,()):=by
 show xz BIG _=_;rw [Y3];dsimp only;rw [ax3];have h0:qZ (o,((0:Int),(0:Int),[],(0:Int)))=some (blO o,()):=by
  have:qZ (o,((0:Int),(0:Int),[],(0:Int)))=xy BIG (o,((0:Int),(0:Int),[],(0:Int))):=rfl;rw [this,Y1];dsimp only;rw [GH _ _ h1,acz];unfold blO;cases decide (o.1=0)<;>cases decide (o.2.1=0)<;>cases decide (o.2.2.1.length=0)<;>cases decide (o.2.2.2=0)<;>rfl
 rw [h0];unfold tB;cases blQ a b c d<;>cases decide (sh=0)<;>cases blO o<;>rfl
def wm (n:Int) (k:Nat) (op a b:Int):Bool:=
 aW op 1 4&&(aW a 0 (n-1)&&(bif decide (op=4) then aW b 1 k else aW b 0 (n-1) && !(decide (a=b)&&(decide (op=1) || decide (op=2)))))
theorem afe (x0:Int) (x1:aa Int) (x2:aa Ed) (x3:aa (aa Int)) (x4:aa Int) (x5 x6 x7 x8 x9 x10 x11:Int) (x12:aa Ed) (x13:Int) (x14:aa Sd) (i op a b:Int) (h0:1<=x0/\x0<=12):Gt ((x0,x1,x2,x3,x4,x5,x6,x7,x8,x9,x10,x11,x12,x13,x14),(i,op,a,b))=some (!wm x0 x3.length op a b,()):=by
 show PH BIG _=_;rw [atA];dsimp only;rw [wr (by omega) (by omega)];simp only [iV];unfold wm;by_cases h4:op=4
 ·subst h4;simp only [decide_true,ai,af];cases aW 4 1 4<;>cases aW a 0 (x0-1)<;>cases aW b 1 (x3.length:Int)<;>cases decide (a=b)<;>rfl
 ·simp only [h4,decide_false,ax,af];cases aW op 1 4<;>cases aW a 0 (x0-1)<;>cases aW b 0 (x0-1)<;>cases decide (a=b)<;>cases decide (op=1)<;>cases decide (op=2)<;>rfl
theorem Vr (x0:Int) (x1:aa Int) (x2:aa Ed) (x3:aa (aa Int)) (x4:aa Int) (x5 x6 x7 x8 x9 x10 x11:Int) (x12:aa Ed) (x13:Int) (x14:aa Sd) (i op a b:Int) (h0:1<=x0/\x0<=12):z_ ((x0,x1,x2,x3,x4,x5,x6,x7,x8,x9,x10,x11,x12,x13,x14),(i,op,a,b))=some (wm x0 x3.length op a b,()):=by
 show H9 BIG _=_;rw [akT];dsimp only;rw [wr (by omega) (by omega)];simp only [dH];unfold wm;by_cases h4:op=4
 ·subst h4;simp only [decide_true,ai,af];cases aW 4 1 4<;>cases aW a 0 (x0-1)<;>cases aW b 1 (x3.length:Int)<;>rfl
 ·simp only [h4,decide_false,ax,af];by_cases h3:op=3
  ·subst h3;simp only [decide_true,ai,af];cases aW 3 1 4<;>cases aW a 0 (x0-1)<;>cases aW b 0 (x0-1)<;>cases decide (a=b)<;>rfl
  ·simp only [h3,decide_false,ax];cases hq:aW op 1 4 with
   | false=>rfl
   | true=>
    have:(decide (op=1) || decide (op=2))=true:=by
     rw [aV] at hq;by_cases op=1<;>by_cases op=2<;>simp_all<;>omega
    rw [this];cases aW a 0 (x0-1)<;>cases aW b 0 (x0-1)<;>cases decide (a=b)<;>rfl
theorem gD {α:Type} {l:aa α} {i:Nat} {y d:α} (h:l[i]?=some y):l.getD i d=y:=by rw [dw,h];rfl
def p1 (k:Nat) (l:aa Int) (i:Nat):Bool:=aW (l.getD i 0) 1 k
def p2 (own:aa Int) (cuts:aa Ed) (i:Nat):Bool:=!decide (own.getD (cuts.getD i (0,0)).1.toNat 0=own.getD (cuts.getD i (0,0)).2.toNat 0)
def p3 (n:Int) (L:aa (aa Int)) (nums:aa Int) (i:Nat):Bool:=sj n (L.getD i [])&&aW (nums.getD i 0) 0 99991
def p4c (l:aa Sd) (i:Nat) (y:Sd):Bool:=decide (y.1=y.2.1)&&(aW y.2.2.2.2.2 1 3&&decide (sA l y.1=(i:Int)))
def p4 (l:aa Sd) (i:Nat):Bool:=p4c l i (l.getD i (0,0,0,0,0,0))
abbrev oP1 (k:Nat) (l:List Int):Prop:=∀i,i<l.length->p1 k l i=true
abbrev oP2 (own:List Int) (cuts:List Ed):Prop:=∀i,i<cuts.length->p2 own cuts i=true
abbrev oP3 (n:Int) (L:List (List Int)) (nums:List Int):Prop:=∀i,i<L.length->p3 n L nums i=true
abbrev yH (l:List Sd):Prop:=∀i,i<l.length->p4 l i=true
theorem anT (own:aa Int) (cuts:aa Ed) (n:Int) (he:mg n cuts=true) (hn:(own.length:Int)=n) {B:Type} (self:Int->ah (Unit ⊕ Bool)) (i:Nat) (y:Ed) (hy:cuts[i]?=some y) (hl:cuts.length<=1048576) :
  (bnd own.length y.1 fun n12=>
   Option.bind own[n12]? fun y13=>
   bnd own.length y.2 fun n14=>
   Option.bind own[n14]? fun y15=>
   bif decide (y13=y15) then some (Sum.inr false)
   else self (IntKind.wrap .i64 ((i:Int)+(1:Int))))=if p2 own cuts i then self ((i+1:Nat):Int) else some (.inr false):=by
 have hm:maxLen=9223372036854775807:=by decide
 have hi:=(aZ hy).1;subst hn;have hb:=fK ((lc he).1 y (eY hy));have h1:own[y.1.toNat]?=some (own[y.1.toNat]'(by omega)):=aR (by omega);have h2:own[y.2.toNat]?=some (own[y.2.toNat]'(by omega)):=aR (by omega);rw [bV (by omega) (by omega),h1,af,bV (by omega) (by omega),h2,af,bT (by omega)];unfold p2;rw [gD hy,gD h1,gD h2];cases decide (own[y.1.toNat]'(by omega)=own[y.2.toNat]'(by omega))<;>rfl
open Classical in
noncomputable def uB (n:Int) (own:aa Int) (cuts:aa Ed) (L:aa (aa Int)) (nums:aa Int) (said:aa Sd) (t:Bool):Bool:=
 decide ((aW n 1 12=true/\aW (L.length:Int) 1 3=true/\nums.length=L.length)/\oP3 n L nums/\((own.length:Int)=n/\mg n cuts=true)/\oP1 L.length own/\oP2 own cuts/\(yH said/\said.length<=80)/\t=true)
def su (n:Int) (k:Nat) (nums:aa Int) (said:aa Sd) (id op a b sh:Int) (o:Be):Bool:=
 tB id op a b sh o || ((aW id 1 100000&&(!decide (op=3)&&wm n k op a b))&&(aW sh 1 k&&(pV n o&&(decide (o.1=IntKind.wrap .i64 (nums.getD (sh-1).toNat 0+1))&&decide (sA said id<0)))))
theorem auf (x0:Int) (x1:aa Int) (x2:aa Ed) (x3:aa (aa Int)) (x4:aa Int) (x5 x6 x7 x8 x9 x10 x11:Int) (x12:aa Ed) (x13:Int) (x14:aa Sd) (h0:1<=x0/\x0<=12) (h4:x4.length=x3.length) (hk:x3.length<=3) (dO:x12.length<=1048576) (nD:x14.length<=1048576) :
  PN (x0,x1,x2,x3,x4,x5,x6,x7,x8,x9,x10,x11,x12,x13,x14)=some (su x0 x3.length x4 x14 x5 x6 x7 x8 x9 (x10,x11,x12,x13),()):=by
 show PL BIG _=_;rw [atC];dsimp only;rw [auc x5 x6 x7 x8 x9 (x10,x11,x12,x13),af,afe _ _ _ _ _ _ _ _ _ _ _ _ _ _ _ _ _ _ _ h0];simp only [iV];unfold su;cases tB x5 x6 x7 x8 x9 (x10,x11,x12,x13) with
 | true=>rfl
 | false=>
  simp only [ax,af,wD];cases aW x5 1 100000 with
  | false=>rfl
  | true=>
   cases decide (x6=3) with
   | true=>rfl
   | false=>
    cases wm x0 x3.length x6 x7 x8 with
    | false=>rfl
    | true=>
     simp only [bB,ax,af,gW,wF,dY];cases hs:aW x9 1 (x3.length:Int) with
     | false=>rfl
     | true=>
      rw [Mf x0 (x10,x11,x12,x13) dO];simp only [ai,af,dY];cases pV x0 (x10,x11,x12,x13) with
      | false=>rfl
      | true=>
       rw [aV] at hs;have h1:x4[(x9-1).toNat]?=some (x4[(x9-1).toNat]'(by omega)):=aR (by omega);rw [ai,wr (n:=x9-1) (by omega) (by omega),bV (by omega) (by omega),h1,af,gD h1,QO x14 x5 nD];simp only [dY];cases decide (x10=IntKind.wrap .i64 (x4[(x9-1).toNat]'(by omega)+1))<;>rfl
theorem ajs (x0:Int) (x1:aa Int) (x2:aa Ed) (x3:aa (aa Int)) (x4:aa Int) (x5 x6 x7 x8 x9 x10 x11:Int) (x12:aa Ed) (x13:Int) (x14:aa Sd) (h0:1<=x0/\x0<=12) (h4:x4.length=x3.length) (hk:x3.length<=3) (dO:x12.length<=1048576) (nD:x14.length<=1048576) :
  D6 (x0,x1,x2,x3,x4,x5,x6,x7,x8,x9,x10,x11,x12,x13,x14)=some (su x0 x3.length x4 x14 x5 x6 x7 x8 x9 (x10,x11,x12,x13),()):=by
 have hm:maxLen=9223372036854775807:=by decide
 show D5 BIG _=_;rw [ahZ];dsimp only;rw [aa2 x5 x6 x7 x8 x9 (x10,x11,x12,x13) (by simp only;omega),af,Vr _ _ _ _ _ _ _ _ _ _ _ _ _ _ _ _ _ _ _ h0,Mk _ _ _ _ _ _ _ _ _ _ _ _ _ _ _ _ nD];simp only [dH];unfold su;cases tB x5 x6 x7 x8 x9 (x10,x11,x12,x13) with
 | true=>rfl
 | false=>
  simp only [ax,af,wD];cases hs:aW x9 1 (x3.length:Int) with
  | false=>simp
  | true=>
   rw [Me x0 (x10,x11,x12,x13) dO];simp only [ai,af,dY];cases pV x0 (x10,x11,x12,x13) with
   | false=>simp
   | true=>
    rw [aV] at hs;have h1:x4[(x9-1).toNat]?=some (x4[(x9-1).toNat]'(by omega)):=aR (by omega);rw [ai,wr (n:=x9-1) (by omega) (by omega),bV (by omega) (by omega),h1,af,gD h1];simp only [dY];cases decide (x10=IntKind.wrap .i64 (x4[(x9-1).toNat]'(by omega)+1))<;>cases decide (sA x14 x5<0)<;>cases wm x0 x3.length x6 x7 x8<;>cases decide (x6=3)<;>cases aW x5 1 100000<;>rfl
open Classical in
theorem awq (x0:Int) (x1:aa Int) (x2:aa Ed) (x3:aa (aa Int)) (x4:aa Int) (x5 x6 x7 x8 x9 x10 x11:Int) (x12:aa Ed) (x13:Int) (x14:aa Sd) (h1:x1.length<=1048576) (h2:x2.length<=1048576) :
  WI (x0,x1,x2,x3,x4,x5,x6,x7,x8,x9,x10,x11,x12,x13,x14)=some (decide (((x1.length:Int)=x0/\mg x0 x2=true)/\oP1 x3.length x1/\oP2 x1 x2),()):=by
 have hm:maxLen=9223372036854775807:=by decide
 show WH BIG _=_;rw [av7];dsimp only;rw [CU x0 x2 h2];by_cases hn:(x1.length:Int)=x0
 ·cases he:mg x0 x2 with
  | false=>simp [hn]
  | true=>
   rw [ak hn];simp only [bB,ax,af];rw [kY x1 (by omega) (p1 x3.length x1) false]
   ·by_cases hp:oP1 x3.length x1
    ·rw [if_pos hp];simp only [af];rw [kY x2 (by omega) (p2 x1 x2) false]
     ·by_cases hq:oP2 x1 x2
      ·rw [if_pos hq,ak (by exact ⟨⟨hn,by first|rfl|trivial|exact he⟩,hp,hq⟩)];rfl
      ·rw [if_neg hq,az (fun h=>hq h.2.2)];rfl
     ·intro self i y hy;have hi:=(aZ hy).1;simp only [show ((i:Int)<(x2.length:Int)) from by omega,decide_true,ai];rw [aF hi,hy,af];exact anT x1 x2 x0 he hn (B:=Unit) self i y hy h2
     ·intro self;simp
    ·rw [if_neg hp,az (fun h=>hp h.2.1)];rfl
   ·intro self i y hy;have hi:=(aZ hy).1;simp only [show ((i:Int)<(x1.length:Int)) from by omega,decide_true,ai];rw [aF hi,hy,af,iV,af,bT (by omega)];unfold p1;rw [gD hy];cases aW y 1 (x3.length:Int)<;>rfl
   ·intro self;simp
 ·rw [az hn];simp [hn]
open Classical in
theorem aug (l:aa Sd) (hl:l.length<=1048576):Pz l=some (decide (yH l/\l.length<=80),()):=by
 have hm:maxLen=9223372036854775807:=by decide
 show Py BIG _=_;rw [atw];rw [kY l (by omega) (p4 l) false]
 ·by_cases hp:yH l
  ·rw [if_pos hp];by_cases hq:l.length<=80
   ·have e:decide (yH l/\l.length<=80)=true:=ak ⟨hp,hq⟩;have e2:decide ((l.length:Int)<=80)=true:=ak (by omega);rw [e,e2];rfl
   ·have e:decide (yH l/\l.length<=80)=false:=az (fun h=>hq h.2);have e2:decide ((l.length:Int)<=80)=false:=az (by omega);rw [e,e2];rfl
  ·have e:decide (yH l/\l.length<=80)=false:=az (fun h=>hp h.1);rw [if_neg hp,e];rfl
 ·intro self i y hy;have hi:=(aZ hy).1;simp only [show ((i:Int)<(l.length:Int)) from by omega,decide_true,ai];rw [aF hi,hy,af,iV,bT (by omega),ak (show (0:Int)<=(i:Int) from by omega),ak (show 0<=Int.toNat (i:Int)/\Int.toNat (i:Int)<=l.length from ⟨by omega,by omega⟩),il,t_,uI,QO _ _ (by rw [iy];omega)];simp only [ai,af];rw [azB hy];unfold p4;rw [gD hy];unfold p4c;cases decide (y.1=y.2.1)<;>cases aW y.2.2.2.2.2 1 3<;>cases decide (sA l y.1=(i:Int))<;>rfl
 ·intro self;simp
theorem aBt {n:Int} {own:aa Int} {cuts:aa Ed} {L:aa (aa Int)} {nums:aa Int} {said:aa Sd} {t:Bool} (h:(aW n 1 12=true/\aW (L.length:Int) 1 3=true/\nums.length=L.length)/\oP3 n L nums/\((own.length:Int)=n/\mg n cuts=true)/\oP1 L.length own/\oP2 own cuts/\(yH said/\said.length<=80)/\t=true):uB n own cuts L nums said t=true:=by
 unfold uB;exact ak h
theorem qH {n:Int} {own:aa Int} {cuts:aa Ed} {L:aa (aa Int)} {nums:aa Int} {said:aa Sd} {t:Bool} (h:(aW n 1 12=true/\aW (L.length:Int) 1 3=true/\nums.length=L.length)/\oP3 n L nums/\((own.length:Int)=n/\mg n cuts=true)/\oP1 L.length own/\oP2 own cuts/\(yH said/\said.length<=80)/\t=true->False):uB n own cuts L nums said t=false:=by
 unfold uB;exact az h
open Classical in
theorem QP (x0:Int) (x1:aa Int) (x2:aa Ed) (x3:aa (aa Int)) (x4:aa Int) (x5 x6 x7 x8 x9 x10 x11:Int) (x12:aa Ed) (x13:Int) (x14:aa Sd) (h1:x1.length<=1048576) (h2:x2.length<=1048576) (h3:x3.length<=1048576/\∀y,y∈x3->y.length<=1048576) (dO:x12.length<=1048576) (nD:x14.length<=1048576) :
  v_ (x0,x1,x2,x3,x4,x5,x6,x7,x8,x9,x10,x11,x12,x13,x14)=some (uB x0 x1 x2 x3 x4 x14 (su x0 x3.length x4 x14 x5 x6 x7 x8 x9 (x10,x11,x12,x13)),()):=by
 have hm:maxLen=9223372036854775807:=by decide
 show PP BIG _=_;rw [atF];dsimp only;rw [awq _ _ _ _ _ _ _ _ _ _ _ _ _ _ _ h1 h2,aug _ nD];simp only [iV];cases ha:aW x0 1 12 with
 | false=>rw [qH (fun h=>by rw [ha] at h;cases h.1.1)];rfl
 | true=>
  cases hb:aW (x3.length:Int) 1 3 with
  | false=>rw [qH (fun h=>by rw [hb] at h;cases h.1.2.1)];rfl
  | true=>
   by_cases hc:x4.length=x3.length
   ·rw [ak (show (x4.length:Int)=(x3.length:Int) from by omega)];simp only [bB,ax,af];rw [kY x3 (by omega) (p3 x0 x3 x4) false]
    ·by_cases hp:oP3 x0 x3 x4
     ·rw [if_pos hp];have ha0:=ha;have hb0:=hb;rw [aV] at ha hb;rw [auf _ _ _ _ _ _ _ _ _ _ _ _ _ _ _ ha hc (by omega) dO nD];simp only [af];by_cases q1:((x1.length:Int)=x0/\mg x0 x2=true)/\oP1 x3.length x1/\oP2 x1 x2
      ·by_cases q2:yH x14/\x14.length<=80
       ·cases q3:su x0 x3.length x4 x14 x5 x6 x7 x8 x9 (x10,x11,x12,x13) with
        | false=>rw [ak q1,ak q2,qH (fun h=>by cases h.2.2.2.2.2.2)];rfl
        | true=>rw [ak q1,ak q2,aBt ⟨⟨ha0,hb0,hc⟩,hp,q1.1,q1.2.1,q1.2.2,q2,rfl⟩];rfl
       ·rw [ak q1,az q2,qH (fun h=>q2 h.2.2.2.2.2.1)];rfl
      ·rw [az q1,qH (fun h=>q1 ⟨h.2.2.1,h.2.2.2.1,h.2.2.2.2.1⟩)];rfl
     ·rw [if_neg hp,qH (fun h=>hp h.2.1)];rfl
    ·intro self i y hy;have hi:=(aZ hy).1;have hz:x4[i]?=some (x4[i]'(by omega)):=aR (by omega);simp only [show ((i:Int)<(x3.length:Int)) from by omega,decide_true,ai];simp only [aF hi,hy,af,Vn x0 y (h3.2 y (eY hy)),aF (show i<x4.length from by omega),hz,bT (show i<maxLen from by omega)];unfold p3;rw [gD hy,gD hz];cases sj x0 y<;>cases aW (x4[i]'(by omega)) 0 99991<;>rfl
    ·intro self;simp
   ·rw [az (show ¬(x4.length:Int)=(x3.length:Int) from by omega),qH (fun h=>hc h.1.2.2)];rfl
open Classical in
theorem QQ (x0 : Int) (x1 : aa Int) (x2 : aa Ed) (x3 : aa (aa Int)) (x4 : aa Int) (x5 x6 x7 x8 x9 x10 x11 : Int) (x12 : aa Ed) (x13 : Int) (x14 : aa Sd) (h1 : x1.length ≤ 1048576) (h2 : x2.length ≤ 1048576) (h3 : x3.length ≤ 1048576 ∧ ∀ y, y ∈ x3 → y.length ≤ 1048576) (dO : x12.length ≤ 1048576) (nD : x14.length ≤ 1048576) :
    A8 (x0, x1, x2, x3, x4, x5, x6, x7, x8, x9, x10, x11, x12, x13, x14) = some (uB x0 x1 x2 x3 x4 x14 (su x0 x3.length x4 x14 x5 x6 x7 x8 x9 (x10, x11, x12, x13)), ()) := by
  have hm : maxLen = 9223372036854775807 := by decide
  show OL BIG _ = _;rw [as7];dsimp only;rw [Ao x0 x2 h2];simp only [dH];cases ha : aW x0 1 12 with
  | false => rw [qH (fun h => by rw [ha] at h; cases h.1.1)]; rfl
  | true =>
    cases hb : aW (x3.length : Int) 1 3 with
    | false => rw [qH (fun h => by rw [hb] at h; cases h.1.2.1)]; rfl
    | true =>
      by_cases hc : x4.length = x3.length
      · rw [ak (show (x4.length : Int) = (x3.length : Int) from by omega)]
        simp only [bB, ax, af]
        by_cases hn : (x1.length : Int) = x0
        · rw [ak hn]
          cases he : mg x0 x2 with
          | false => rw [qH (fun h => by rw [he] at h; cases h.2.2.1.2)]; rfl
          | true =>
            simp only [bB, ax, af];by_cases hs : x14.length ≤ 80
            · rw [az (show ¬ (80 : Int) < (x14.length : Int) from by omega), ax]
              rw [kY x3 (by omega) (p3 x0 x3 x4) false]
              · by_cases hp : oP3 x0 x3 x4
                · rw [if_pos hp]
                  simp only [af]
                  have L1 := kY x1 (by omega) (p1 x3.length x1) false (F := fun (self16 : Int → ah (Unit ⊕ Bool)) (x15 : Int) =>
                     bif decide (x15 < x0) then
                      bnd x1.length x15 fun n17 =>
                      Option.bind x1[n17]? fun y18 =>
                      bif !aW y18 (1 : Int) (x3.length : Int) then
                       some (Sum.inr false)
                      else self16 (IntKind.wrap .i64 (x15 + (1 : Int)))
                     else some (Sum.inl ())) (by
                    intro self i y hy
                    have hi := (aZ hy).1
                    simp only [show ((i : Int) < x0) from by omega, decide_true, ai]
                    rw [aF hi, hy, af, bT (by omega)]
                    unfold p1
                    rw [gD hy]
                    cases aW y 1 (x3.length : Int) <;> rfl) (by
                    intro self
                    simp [hn])
                  rw [L1]
                  by_cases Hg : oP1 x3.length x1
                  · rw [if_pos Hg]
                    simp only [af]
                    rw [kY x2 (by omega) (p2 x1 x2) false]
                    · by_cases GX : oP2 x1 x2
                      · rw [if_pos GX]
                        simp only [af]
                        rw [kY x14 (by omega) (p4 x14) false]
                        · by_cases hp4 : yH x14
                          · rw [if_pos hp4]
                            have ha0 := ha
                            have hb0 := hb
                            rw [aV] at ha hb
                            simp only [af]
                            rw [ajs _ _ _ _ _ _ _ _ _ _ _ _ _ _ _ ha hc (by omega) dO nD]
                            simp only [af]
                            cases q3 : su x0 x3.length x4 x14 x5 x6 x7 x8 x9 (x10, x11, x12, x13) with
                            | false => rw [qH (fun h => by cases h.2.2.2.2.2.2)]
                            | true => rw [aBt ⟨⟨ha0, hb0, hc⟩, hp, ⟨hn, he⟩, Hg, GX, ⟨hp4, hs⟩, rfl⟩]
                          · rw [if_neg hp4, qH (fun h => hp4 h.2.2.2.2.2.1.1)]; rfl
                        · intro self i y hy
                          have hi := (aZ hy).1
                          simp only [show ((i : Int) < (x14.length : Int)) from by omega, decide_true, ai]
                          simp only [aF hi, hy, af, bT (show i < maxLen from by omega), Mk _ _ _ _ _ _ _ _ _ _ _ _ _ _ _ _ nD]
                          unfold p4
                          rw [gD hy]
                          unfold p4c
                          cases decide (y.1 = y.2.1) <;> cases aW y.2.2.2.2.2 1 3 <;> cases decide (sA x14 y.1 = (i : Int)) <;> rfl
                        · intro self; simp
                      · rw [if_neg GX, qH (fun h => GX h.2.2.2.2.1)]; rfl
                    · intro self i y hy
                      have hi := (aZ hy).1
                      simp only [show ((i : Int) < (x2.length : Int)) from by omega, decide_true, ai]
                      simp only [aF hi, hy, af]
                      exact anT x1 x2 x0 he hn (B := Unit) self i y hy h2
                    · intro self; simp
                  · rw [if_neg Hg, qH (fun h => Hg h.2.2.2.1)]; rfl
                · rw [if_neg hp, qH (fun h => hp h.2.1)]; rfl
              · intro self i y hy
                have hi := (aZ hy).1
                have hz : x4[i]? = some (x4[i]'(by omega)) := aR (by omega)
                simp only [show ((i : Int) < (x3.length : Int)) from by omega, decide_true, ai]
                simp only [aF hi, hy, af, QJ x0 y (h3.2 y (eY hy)), aF (show i < x4.length from by omega), hz, bT (show i < maxLen from by omega)]
                unfold p3
                rw [gD hy, gD hz]
                cases sj x0 y <;> cases aW (x4[i]'(by omega)) 0 99991 <;> rfl
              · intro self; simp
            · rw [ak (show (80 : Int) < (x14.length : Int) from by omega), qH (fun h => hs h.2.2.2.2.2.1.2)]; rfl
        · rw [az hn, qH (fun h => hn h.2.2.1.1)]; rfl
      · rw [az (show ¬ (x4.length : Int) = (x3.length : Int) from by omega), qH (fun h => hc h.1.2.2)]; rfl
theorem Bi {S α:Type} (p:α->Bool) (f:S->α->S):∀(l:aa α) (s:S),fM (fun s y=>if p y=true then some (f s y) else none) s l=if l.all p=true then some (l.foldl f s) else none
 | [],s=>by simp [fM]
 | y::l,s=>by
  rw [fM];cases hp:p y with
  | false=>simp [hp]
  | true=>simp only [if_true,af,Bi p f l,Kh,hp,dY,gH]
def BZ (l:aa Int):aa Ed:=l.zipIdx.map fun p=>(p.1,(p.2:Int))
def vP (l:aa Int):Bool:=l.zipIdx.all fun p=>aW p.1 0 (p.2:Int)
def pL (n:Int) (l:aa Int):Bool:=decide ((l.length:Int)=n)&&vP l
def wlB (n:Int) (L:aa (aa Int)) (cuts:aa Ed):Bool:=aW n 1 12&&(decide (L.length<=3)&&(L.all (pL n)&&cuts.all (eF n)))
def B_ (n:Int) (L:aa (aa Int)) (cuts:aa Ed):aa Int × Bool:=if wlB n L cuts=true then (labs n.toNat (L.flatMap BZ++cuts),true) else ([],false)
theorem JV {l:aa Int} {i:Nat} {p:Int × Nat} (h:l.zipIdx[i]?=some p):l[i]?=some p.1/\p.2=i:=by
 rw [List.getElem?_zipIdx] at h;cases hl:l[i]? with
 | none=>rw [hl] at h;simp at h
 | some x=>rw [hl] at h;simp at h;subst h;simp
theorem aDh {n:Nat} {l:aa Int} (hl:l.length=n) (h:vP l=true):oN n (BZ l):=by
 intro e he;obtain ⟨p,hp,rfl⟩:=bX.1 he;obtain ⟨i,hi,rfl⟩:=zW hp;have h1:=bW.1 h _ hp;obtain ⟨h2,h3⟩:=JV (aR hi);rw [aV] at h1;rw [XE] at hi;refine ⟨h1.1,?_,?_,?_⟩<;>(simp only;omega)
theorem foldl_flat {α β S:Type} (f:α->aa β) (g:S->β->S):∀(L:aa α) (s:S),L.foldl (fun s l=>(f l).foldl g s) s=(L.flatMap f).foldl g s
 | [],s=>rfl
 | l::L,s=>by simp only [gH,XH,pF,foldl_flat f g L]
theorem QR (E:aa Ed) (s:aa Int):(E.foldl unE s).length=s.length:=by
 induction E generalizing s with
 | nil=>rfl
 | cons e E ih=>rw [gH,ih,R_]
theorem acA (n:Int) (L:aa (aa Int)) (cuts:aa Ed) (hL:L.length<=1048576) (hc:cuts.length<=1048576):zx (n,L,cuts)=some (B_ n L cuts,()):=by
 have hm:maxLen=9223372036854775807:=by decide
 show zw BIG _=_;rw [acm,iV];unfold B_ wlB;cases hn:aW n 1 12 with
 | false=>rfl
 | true=>
  rw [aV] at hn;obtain ⟨k,rfl⟩:∃k:Nat,n=(k:Int):=⟨n.toNat,by omega⟩
  by_cases h3:L.length<=3;case neg=>rw [az h3];simp only [af,bB,ax];rw [ak (by omega)];rfl
  rw [ak h3];simp only [af,bB,ax,dY];rw [az (show ¬(3:Int)<(L.length:Int) from by omega),ax,Mh k (by omega),af];rw [vJ L (by omega) (fun _ (s:aa Int)=>s.length=k) (fun s l=>if pL k l=true then some ((BZ l).foldl unE s) else none) (([],false):aa Int × Bool) (vI k) (fun i s y s' hy hs he=>by
   split at he
   ·cases he;rw [QR];exact hs
   ·cases he) (fun self s i y hy hs => ?_) (fun self s hs=>by simp)]
  ·rw [Bi];cases Fq:L.all (pL k) with
   | false=>rfl
   | true=>
    simp only [if_true,af,foldl_flat,dY];rw [vJ cuts (by omega) (fun _ (s:aa Int)=>s.length=k) (fun s e=>if eF k e=true then some (unE s e) else none) (([],false):aa Int × Bool) (by rw [QR];exact vI k) (fun i s y s' hy hs he=>by
     split at he
     ·cases he;rw [R_];exact hs
     ·cases he) (fun self s i y hy hs => ?_) (fun self s hs=>by simp)]
    ·rw [Bi];cases agq:cuts.all (eF k) with
     | false=>rfl
     | true=>
      simp only [if_true,af,il];unfold labs;rw [pF]
    ·have hi:=(aZ hy).1;simp only [show ((i:Int)<(cuts.length:Int)) from by omega,decide_true,ai];rw [aF hi,hy,af,QI,bT (by omega)];cases he:eF k y with
     | false=>rfl
     | true=>
      have bn:=fK he;simp only [af,bB,ax,if_true];rw [Mi s y.1 y.2 bn.1 (by omega) bn.2.2.1 (by omega) (by omega)];rfl
  ·have hi:=(aZ hy).1;simp only [show ((i:Int)<(L.length:Int)) from by omega,decide_true,ai];rw [aF hi,hy,af,bT (by omega)];by_cases bN:(y.length:Int)=(k:Int)
   case neg=>unfold pL;rw [az bN];rfl
   rw [ak bN,bB,ax];have hz:(y.zipIdx).length=y.length:=XE;have hlz:(((y.length:Nat):Int))=((y.zipIdx.length:Nat):Int):=by rw [hz]
   rw [vJ y.zipIdx (by omega) (fun _ (s:aa Int)=>s.length=k) (fun s p=>if aW p.1 0 (p.2:Int)=true then some (unE s (p.1,(p.2:Int))) else none) (([],false):aa Int × Bool) hs (fun i s y s' hy hs he=>by
    split at he
    ·cases he;rw [R_];exact hs
    ·cases he) (fun self s j p hp hs => ?_) (fun self s hs=>by simp only [hz,show ¬((y.length:Int)<(y.length:Int)) from by omega,decide_false,ax])]
   ·rw [Bi];have e1:pL k y=vP y:=by unfold pL;rw [ak bN,dY]
    rw [e1];unfold vP BZ;cases y.zipIdx.all fun p=>aW p.1 0 (p.2:Int) with
    | false=>rfl
    | true=>simp only [if_true,af,List.foldl_map]
   ·obtain ⟨Hg,GX⟩:=JV hp;have hj:=(aZ Hg).1;obtain ⟨x,v⟩:=p;simp only at Hg GX;subst GX;simp only [show ((v:Int)<(y.length:Int)) from by omega,decide_true,ai];rw [aF hj,Hg,af,iV,bT (by omega)];cases hx:aW x 0 (v:Int) with
    | false=>rfl
    | true=>
     rw [aV] at hx;simp only [af,bB,ax,if_true];rw [Mi s x (v:Int) hx.1 (by omega) (by omega) (by omega) (by omega)];rfl
def QS (l:aa Int):aa Ed:=(BZ l).filter fun e=>decide (e.1<e.2)
theorem Ml:∀(E:aa Ed) (s:aa Int),(∀e,e∈E->e.1<=e.2)->(E.filter fun e=>decide (e.1<e.2)).foldl unE s=E.foldl unE s
 | [],s,_=>rfl
 | e::E,s,h=>by
  rw [Kg];by_cases he:e.1<e.2
  ·rw [ak he,if_pos rfl,gH,gH];exact Ml E _ fun e' Hf=>h e' (dQ _ Hf)
  ·have h1:=h e (dW ..);have h2:e.1=e.2:=by omega
   rw [az he,if_neg (by simp),gH,show unE s e=s from by unfold unE;rw [h2,ajg]];exact Ml E s fun e' Hf=>h e' (dQ _ Hf)
theorem azC {n:Nat} {L:aa (aa Int)} (cuts:aa Ed) (h:L.all (pL n)=true):labs n (L.flatMap QS++cuts)=labs n (L.flatMap BZ++cuts):=by
 unfold labs;rw [pF,pF];congr 1;have e1:L.flatMap QS=(L.flatMap BZ).filter fun e=>decide (e.1<e.2):=by
  rw [List.filter_flatMap];rfl
 rw [e1,Ml];intro e he;obtain ⟨l,hl,Ce⟩:=Ch.1 he;have h1:=bW.1 h l hl;simp only [pL,aU,decide_eq_true_eq] at h1;obtain ⟨p,hp,rfl⟩:=bX.1 Ce;have h2:=bW.1 h1.2 p hp;rw [aV] at h2;exact h2.2
theorem aDi {n:Nat} {L:aa (aa Int)} {cuts:aa Ed} (h:L.all (pL n)=true) (hc:cuts.all (eF n)=true):oN n (L.flatMap QS++cuts):=by
 intro e he;rcases bG.1 he with he|he
 ·obtain ⟨l,hl,Ce⟩:=Ch.1 he;have h1:=bW.1 h l hl;simp only [pL,aU,decide_eq_true_eq] at h1;exact aDh (by omega) h1.2 e (jK.1 Ce).1
 ·have:=fK (bW.1 hc e he);exact ⟨this.1,this.2.1,this.2.2.1,this.2.2.2.1⟩
theorem ajt:∀(l:aa (Int × Nat)) (s:aa Ed),l.foldl (fun (s:aa Ed) p=>if p.1<(p.2:Int) then s++[(p.1,(p.2:Int))] else s) s=s++((l.map fun p=>(p.1,(p.2:Int))).filter fun e=>decide (e.1<e.2))
 | [],s=>by simp
 | p::l,s=>by
  rw [gH,ajt l,bv,Kg];by_cases h:p.1<(p.2:Int)
  ·simp [h]
  ·simp [h]
theorem aff {α β:Type} (f:α->aa β):∀(L:aa α) (s:aa β),L.foldl (fun s l=>s++f l) s=s++L.flatMap f
 | [],s=>by simp
 | l::L,s=>by rw [gH,aff f L,XH,lK]
theorem acB (n:Int) (L:aa (aa Int)) (cuts:aa Ed) (hL:L.length<=1048576) (hc:cuts.length<=1048576):zh (n,L,cuts)=some (if cuts.length<=1000 then B_ n L cuts else ([],false),()):=by
 have hm:maxLen=9223372036854775807:=by decide
 show zg BIG _=_;rw [aca,dH];unfold B_ wlB;cases hn:aW n 1 12 with
 | false=>simp
 | true=>
  rw [aV] at hn;obtain ⟨k,rfl⟩:∃k:Nat,n=(k:Int):=⟨n.toNat,by omega⟩
  by_cases h3:L.length<=3;case neg=>rw [az h3];simp only [af,bB,ax];rw [ak (by omega)];simp
  rw [ak h3];simp only [af,bB,ax,dY];rw [az (show ¬(3:Int)<(L.length:Int) from by omega),ax];by_cases ayq:cuts.length<=1000;case neg=>rw [ak (by omega),if_neg ayq];rfl
  rw [az (by omega),if_pos ayq];simp only [af,ax];rw [vJ L (by omega) (fun i (s:aa Ed)=>s.length<=12*i) (fun s l=>if pL k l=true then some (s++QS l) else none) (([],false):aa Int × Bool) (by simp) (fun i s y s' hy hs he=>by
   split at he
   ·rename_i hp
    cases he
    simp only [pL,aU,decide_eq_true_eq] at hp
    have h4:(QS y).length<=y.length:=by
     unfold QS BZ
     refine kg (qM _ _) ?_
     simp
    rw [dP];omega
   ·cases he) (fun self s i y hy hs => ?_) (fun self s hs=>by simp)]
  ·rw [Bi];cases Fq:L.all (pL k) with
   | false=>rfl
   | true=>
    simp only [if_true,af,aff,dY,gQ];have Cc:(L.flatMap QS).length<=36:=by
     have:∀M:aa (aa Int),M.all (pL k)=true->(M.flatMap QS).length<=12*M.length:=by
      intro M;induction M with
      | nil=>intro _;simp
      | cons y M ih=>
       intro h;simp only [Kh,aU] at h;have h5:=ih h.2;have hp:=h.1;simp only [pL,aU,decide_eq_true_eq] at hp;have h4:(QS y).length<=y.length:=by
        unfold QS BZ;refine kg (qM _ _) ?_;simp
       rw [XH,dP,bF];omega
     have:=this L Fq;omega
    rw [vJ cuts (by omega) (fun i (s:aa Ed)=>s.length<=36+i) (fun s e=>if eF k e=true then some (s++[e]) else none) (([],false):aa Int × Bool) (by omega) (fun i s y s' hy hs he=>by
     split at he
     ·cases he;simp;omega
     ·cases he) (fun self s i y hy hs => ?_) (fun self s hs=>by simp)]
    ·rw [Bi];cases agq:cuts.all (eF k) with
     | false=>rfl
     | true=>
      have ark:∀(l:aa Ed) (s:aa Ed),l.foldl (fun s e=>s++[e]) s=s++l:=by
       intro l;induction l with
       | nil=>intro s;simp
       | cons e l ih=>intro s;rw [gH,ih];simp
      simp only [if_true,af,il,ark];rw [E8 k _ (by omega) (aDi Fq agq) (by rw [dP];omega),af,azC cuts Fq]
    ·have hi:=(aZ hy).1;simp only [show ((i:Int)<(cuts.length:Int)) from by omega,decide_true,ai];rw [aF hi,hy,af,GG,bT (by omega)];cases he:eF k y with
     | false=>rfl
     | true=>
      simp only [af,bB,ax,if_true];rw [aF hi,hy,af,ak (by simp only [bF,bQ];omega)];rfl
  ·have hi:=(aZ hy).1;simp only [show ((i:Int)<(L.length:Int)) from by omega,decide_true,ai];rw [aF hi,hy,af,bT (by omega)];by_cases bN:(y.length:Int)=(k:Int)
   case neg=>unfold pL;rw [az bN];rfl
   rw [ak bN,bB,ax];have hz:(y.zipIdx).length=y.length:=XE;rw [vJ y.zipIdx (by omega) (fun j (t:aa Ed)=>t.length<=12*i+j) (fun s p=>if aW p.1 0 (p.2:Int)=true then some (if p.1<(p.2:Int) then s++[(p.1,(p.2:Int))] else s) else none) (([],false):aa Int × Bool) (by omega) (fun i s y s' hy hs he=>by
    split at he
    ·cases he
     split
     ·simp;omega
     ·omega
    ·cases he) (fun self s j p hp hs => ?_) (fun self s hs=>by simp only [hz,show ¬((y.length:Int)<(k:Int)) from by omega,decide_false,ax])]
   ·rw [Bi];have e1:pL k y=vP y:=by unfold pL;rw [ak bN,dY]
    rw [e1];unfold vP QS BZ;cases y.zipIdx.all fun p=>aW p.1 0 (p.2:Int) with
    | false=>rfl
    | true=>simp only [if_true,af,ajt]
   ·obtain ⟨Hg,GX⟩:=JV hp;have hj:=(aZ Hg).1;obtain ⟨x,v⟩:=p;simp only at Hg GX;subst GX;simp only [show ((v:Int)<(k:Int)) from by omega,decide_true,ai];rw [bT (by omega)];simp only [aF hi,hy,af,aF hj,Hg,dH];cases hx:aW x 0 (v:Int) with
    | false=>rfl
    | true=>
     simp only [bB,ax,if_true];by_cases hxv:x<(v:Int)
     ·rw [ak hxv,ai,if_pos hxv,ak (by simp only [bF,bQ];omega),ai];rfl
     ·rw [az hxv,ax,if_neg hxv];rfl
abbrev Nk:=Int × List Int × List (Int × Int) × List (List Int) × List Int × Int × Int × Int × Int × Int × Int × Int × List (Int × Int) × Int × List (Int × Int × Int × Int × Int × Int) × Int
theorem auh (L:aa (aa Int)) (s:Hd):L.foldl (fun (s:Hd) y=>(s.1,s.2.1,s.2.2.1,s.2.2.2.1++[y],s.2.2.2.2)) s=(s.1,s.2.1,s.2.2.1,s.2.2.2.1++L,s.2.2.2.2):=by
 induction L generalizing s with
 | nil=>simp
 | cons y L ih=>rw [gH,ih];simp
theorem Ap (l:aa Int) (h:l.length<=1048576):mf l=some (l,()):=by
 show Ae BIG _=_;rw [Uk,ak (by omega)];rfl
theorem Vs (x0:Int) (x1:aa Int) (x2:aa Ed) (x3:aa (aa Int)) (x4:aa Int) (x5 x6 x7 x8 x9 x10 x11:Int) (x12:aa Ed) (x13:Int) (x14:aa Sd) (h1:x1.length<=1048576) (h2:x2.length<=1048576) (h3:x3.length<=1048576/\∀y,y∈x3->y.length<=1048576) (h4:x4.length<=1048576) (dO:x12.length<=1048576) (nD:x14.length<=1048576) :
  Ag (x0,x1,x2,x3,x4,x5,x6,x7,x8,x9,x10,x11,x12,x13,x14)=some ((x0,x1,x2,x3,x4,x5,x6,x7,x8,x9,x10,x11,x12,x13,x14),()):=by
 have hm:maxLen=9223372036854775807:=by decide
 show Ip BIG _=_;rw [alg];dsimp only;have ht:Io (x5,x6,x7,x8,x9,x10,x11,x12,x13)=some ((x5,x6,x7,x8,x9,x10,x11,x12,x13),()):=by
  show Im BIG _=_;rw [ale,E9 x12 dO];rfl
 rw [Ap x1 h1,af,E9 x2 h2,af,Ap x4 h4,af,ht,af,ak (by omega),ai];rw [jS x3 (by omega) (fun i (s:Hd)=>s.2.2.2.1.length=i) (fun (s:Hd) y=>(s.1,s.2.1,s.2.2.1,s.2.2.2.1++[y],s.2.2.2.2)) id rfl (fun i s y _ h=>by simp only [dP,bF,bQ];omega) (fun self s i y hy hs => ?_) (fun self s _=>by simp)]
 ·rw [auh];simp
 ·have hi:=(aZ hy).1;simp only [show ((i:Int)<(x3.length:Int)) from by omega,decide_true,ai];rw [aF hi,hy,af,Ap y (h3.2 y (eY hy)),af,ak (by simp only [bF,bQ];omega),ai,bT (by omega)]
theorem CW (x0:Int) (x1:aa Int) (x2:aa Ed) (x3:aa (aa Int)) (x4:aa Int) (x5 x6 x7 x8 x9 x10 x11:Int) (x12:aa Ed) (x13:Int) (x14:aa Sd) (h1:x1.length<=1048576) (h2:x2.length<=1048576) (h3:x3.length<=1048576/\∀y,y∈x3->y.length<=1048576) (h4:x4.length<=1048576) (dO:x12.length<=1048576) (nD:x14.length<=1048576) :
  nV (x0,x1,x2,x3,x4,x5,x6,x7,x8,x9,x10,x11,x12,x13,x14)=some ((x0,x1,x2,x3,x4,x5,x6,x7,x8,x9,x10,x11,x12,x13,x14),()):=by
 have hm:maxLen=9223372036854775807:=by decide
 show KM BIG _=_;rw [apq];dsimp only;have ho:xg (x10,x11,x12,x13)=some ((x10,x11,x12,x13),()):=by
  show xf BIG _=_;rw [YO,ak (by simp;omega)];rfl
 rw [ak (by simp;omega),ai,ak (by simp;omega),ai,ak (by simp;omega),ai,ak (by simp;omega),ai];rw [jS x3 (by omega) (fun i (s:aa (aa Int))=>s.length=i) (fun s y=>s++[y]) id rfl (fun i s y _ h=>by simp only [dP,bF,bQ];omega) (fun self s i y hy hs => ?_) (fun self s _=>by simp)]
 ·rw [af,ho,af];have hf:∀(L s:aa (aa Int)),L.foldl (fun s y=>s++[y]) s=s++L:=by
   intro L;induction L with
   | nil=>intro s;simp
   | cons y L ih=>intro s;rw [gH,ih];simp
  rw [hf];simp
 ·have hi:=(aZ hy).1;have hy3:=h3.2 y (eY hy);simp only [show ((i:Int)<(x3.length:Int)) from by omega,decide_true,ai];rw [aF hi,hy,af,ak (by simp;omega),ai,ak (by simp only [bF,bQ];omega),ai,bT (by omega),gQ]
def E_ (x0:Int) (x1:aa Int) (x2:aa Ed) (x3:aa (aa Int)) (x4:aa Int) (x14:aa Sd) (i op a b v:Int):Nk:=(x0,x1,x2,x3,x4,0,0,0,0,0,0,0,[],0,x14++[(i,i,op,a,b,v)],1)
def aqM (x0:Int) (x1:aa Int) (x2:aa Ed) (x3:aa (aa Int)) (x4:aa Int) (x14:aa Sd) (i op a b sh o:Int) (es:aa Ed) (v:Int):Nk:=(x0,x1,x2,x3,x4,i,op,a,b,sh,x4.getD (sh-1).toNat 0+1,o,es,v,x14,2)
def tkE (x0:Int) (x1:aa Int) (x2:aa Ed) (x3:aa (aa Int)) (x4:aa Int) (x14:aa Sd) (i op a b:Int):Nk:=
 if x1.getD (gF a b).1.toNat 0=x1.getD (gF a b).2.toNat 0 then aqM x0 x1 x2 x3 x4 x14 i op a b (x1.getD (gF a b).1.toNat 0) (if op=2 then 2 else 1) [gF a b] 0
 else if (decide (gF a b∈x2) == decide (op=1))=true then E_ x0 x1 x2 x3 x4 x14 i op a b 2
 else E_ x0 x1 (if gF a b∈x2 then del x2 (gF a b) else ins x2 (gF a b)) x3 x4 x14 i op a b 1
def Vt (x0:Int) (x1:aa Int) (x2:aa Ed) (x3:aa (aa Int)) (x4:aa Int) (x14:aa Sd) (i op a b:Int):Nk:=
 if wm x0 x3.length op a b=false then E_ x0 x1 x2 x3 x4 x14 i op a b 3
 else if op=3 then E_ x0 x1 x2 x3 x4 x14 i op a b (if (B_ x0 x3 x2).1.getD a.toNat 0=(B_ x0 x3 x2).1.getD b.toNat 0 then 1 else 2)
 else if op=4 then (if x1.getD a.toNat 0=b then E_ x0 x1 x2 x3 x4 x14 i op a b 2 else aqM x0 x1 x2 x3 x4 x14 i op a b (x1.getD a.toNat 0) 3 [] a)
 else tkE x0 x1 x2 x3 x4 x14 i op a b
structure HdF (x0:Int) (x1:List Int) (x2:List Ed) (x3:List (List Int)) (x4:List Int) (x14:List Sd):Prop where
 n:1<=x0/\x0<=12
 k:1<=x3.length/\x3.length<=3
 nums:x4.length=x3.length
 own:(x1.length:Int)=x0
 cuts:mg x0 x2=true
 said:x14.length<=80
 o1:∀i,i<x1.length->1<=x1.getD i 0/\x1.getD i 0<=x3.length
 o3:∀i,i<x3.length->sj x0 (x3.getD i [])=true/\0<=x4.getD i 0/\x4.getD i 0<=99991
theorem aBu {x0:Int} {x1:aa Int} {x2:aa Ed} {x3:aa (aa Int)} {x4:aa Int} {x14:aa Sd} {t:Bool} (h:uB x0 x1 x2 x3 x4 x14 t=true):HdF x0 x1 x2 x3 x4 x14/\t=true:=by
 unfold uB at h;have h':=of_decide_eq_true h;obtain ⟨⟨a1,a2,a3⟩,a4,⟨a5,a6⟩,a7,a8,⟨a9,a10⟩,a11⟩:=h';rw [aV] at a1 a2;refine ⟨⟨a1,by omega,a3,a5,a6,a10,fun i hi => ?_,fun i hi => ?_⟩,a11⟩
 ·have:=a7 i hi;unfold p1 at this;rw [aV] at this;exact this
 ·have:=a4 i hi;unfold p3 at this;rw [aU,aV] at this;exact this
theorem aDj {n:Int} {l:aa Int} (h:sj n l=true):pL n l=true:=by
 unfold sj at h;split at h;case isFalse=>cases h
 case isTrue hn=>
 split at h;case isFalse=>cases h
 case isTrue hp=>
 unfold pL;rw [ak hn,dY];unfold vP;rw [bW];intro p kC;obtain ⟨i,hi,rfl⟩:=zW kC;obtain ⟨h1,h2⟩:=JV (aR hi);rw [XE] at hi;have h3:=hp i hi;unfold lbP at h3;rw [h1] at h3;simp only [aU] at h3;rw [h2];exact h3.1
theorem HdF.wl {x0:Int} {x1:aa Int} {x2:aa Ed} {x3:aa (aa Int)} {x4:aa Int} {x14:aa Sd} (h:HdF x0 x1 x2 x3 x4 x14):wlB x0 x3 x2=true:=by
 unfold wlB;rw [aV.2 h.n,ak h.k.2,dY,dY,aU,bW,bW];refine ⟨fun l hl => ?_,(lc h.cuts).1⟩;obtain ⟨i,hi,rfl⟩:=zW hl;have:=(h.o3 i hi).1;rw [gD (aR hi)] at this;exact aDj this
theorem HdF.wl_len {x0:Int} {x1:aa Int} {x2:aa Ed} {x3:aa (aa Int)} {x4:aa Int} {x14:aa Sd} (h:HdF x0 x1 x2 x3 x4 x14):((B_ x0 x3 x2).1.length:Int)=x0:=by
 unfold B_;rw [if_pos h.wl];have:=h.n;simp only [dU];omega
section
variable {x0:Int} {x1:aa Int} {x2:aa Ed} {x3:aa (aa Int)} {x4:aa Int} {x14:aa Sd}
theorem jh (x5 x6 x7 x8 x9 x10 x11:Int) (x12:aa Ed) (x13:Int) (i op a b v:Int) (h:x14.length<=1048576):ic ((x0,x1,x2,x3,x4,x5,x6,x7,x8,x9,x10,x11,x12,x13,x14),(i,op,a,b),v)=some (1,(x0,x1,x2,x3,x4,x5,x6,x7,x8,x9,x10,x11,x12,x13,x14++[(i,i,op,a,b,v)])):=by
 show Iw BIG _=_;rw [alk];dsimp only;rw [ak (by simp only [bF,bQ];omega),ai]
theorem mh (x5 x6 x7 x8 x9 x10 x11:Int) (x12:aa Ed) (x13:Int) (i op a b v:Int) (h:x14.length<=1048576):o_ ((x0,x1,x2,x3,x4,x5,x6,x7,x8,x9,x10,x11,x12,x13,x14),(i,op,a,b),v)=some ((),(x0,x1,x2,x3,x4,0,0,0,0,0,0,0,[],0,x14++[(i,i,op,a,b,v)])):=by
 show OO BIG _=_;rw [as9];dsimp only;rw [ak (by simp only [bF,bQ];omega),ai]
theorem HdF.num (h:HdF x0 x1 x2 x3 x4 x14) {sh:Int} (h1:1<=sh) (h2:sh<=x3.length):IntKind.wrap .i64 (sh-1)=sh-1/\0<=sh-1/\sh-1<x4.length/\x4[(sh-1).toNat]?=some (x4.getD (sh-1).toNat 0)/\IntKind.wrap .i64 (x4.getD (sh-1).toNat 0+1)=x4.getD (sh-1).toNat 0+1:=by
 have hk:=h.k;have hn:=h.nums;have h3:=h.o3 (sh-1).toNat (by omega);exact ⟨wr (by omega) (by omega),by omega,by omega,getD_at (by omega),wr (by omega) (by omega)⟩
theorem BF (h:HdF x0 x1 x2 x3 x4 x14) (x5 x6 x7 x8 x9 x10 x11:Int) (x12:aa Ed) (x13:Int) (i op a b sh q o:Int) (es:aa Ed) (v:Int) (h1:1<=sh) (h2:sh<=x3.length):lu ((x0,x1,x2,x3,x4,x5,x6,x7,x8,x9,x10,x11,x12,x13,x14),(i,op,a,b),sh,(q,o,es,v))=some (2,(x0,x1,x2,x3,x4,i,op,a,b,sh,x4.getD (sh-1).toNat 0+1,o,es,v,x14)):=by
 obtain ⟨g1,g2,g3,g4,g5⟩:=h.num h1 h2;show uN BIG _=_;rw [M8];dsimp only;rw [g1,bV g2 g3,g4,af,g5]
theorem aa3 (h:HdF x0 x1 x2 x3 x4 x14) (x5 x6 x7 x8 x9 x10 x11:Int) (x12:aa Ed) (x13:Int) (i op a b sh q o:Int) (es:aa Ed) (v:Int) (h1:1<=sh) (h2:sh<=x3.length):Cx ((x0,x1,x2,x3,x4,x5,x6,x7,x8,x9,x10,x11,x12,x13,x14),(i,op,a,b),sh,(q,o,es,v))=some (2,(x0,x1,x2,x3,x4,i,op,a,b,sh,x4.getD (sh-1).toNat 0+1,o,es,v,x14)):=by
 obtain ⟨g1,g2,g3,g4,g5⟩:=h.num h1 h2;show KU BIG _=_;rw [apy];dsimp only;rw [g1,bV g2 g3,g4,af,g5]
theorem HdF.at (h:HdF x0 x1 x2 x3 x4 x14) {v:Int} (h1:0<=v) (h2:v<=x0-1):v<x1.length/\x1[v.toNat]?=some (x1.getD v.toNat 0)/\1<=x1.getD v.toNat 0/\x1.getD v.toNat 0<=x3.length:=by
 have ho:=h.own;have:=h.o1 v.toNat (by omega);exact ⟨by omega,getD_at (by omega),this.1,this.2⟩
theorem aui {a b n:Int} (ha:0<=a/\a<=n) (hb:0<=b/\b<=n):(0<=(gF a b).1/\(gF a b).1<=n)/\(0<=(gF a b).2/\(gF a b).2<=n):=by
 unfold gF;split<;>exact ⟨by simpa,by simpa⟩
def GI:Nk->Int × Hd:=fun h=>(h.2.2.2.2.2.2.2.2.2.2.2.2.2.2.2,(h.1,h.2.1,h.2.2.1,h.2.2.2.1,h.2.2.2.2.1,h.2.2.2.2.2.1,h.2.2.2.2.2.2.1,h.2.2.2.2.2.2.2.1,h.2.2.2.2.2.2.2.2.1,h.2.2.2.2.2.2.2.2.2.1,h.2.2.2.2.2.2.2.2.2.2.1,h.2.2.2.2.2.2.2.2.2.2.2.1,h.2.2.2.2.2.2.2.2.2.2.2.2.1,h.2.2.2.2.2.2.2.2.2.2.2.2.2.1,h.2.2.2.2.2.2.2.2.2.2.2.2.2.2.1))
theorem aju (h:HdF x0 x1 x2 x3 x4 x14) (i op a b:Int) (lI:op=1\/op=2) (ha:0<=a/\a<=x0-1) (hb:0<=b/\b<=x0-1):Es ((x0,x1,x2,x3,x4,0,0,0,0,0,0,0,[],0,x14),(i,op,a,b))=some (GI (tkE x0 x1 x2 x3 x4 x14 i op a b)):=by
 have hm:maxLen=9223372036854775807:=by decide
 have jX:=jV h.cuts;have tX:=h.said;obtain ⟨e1,e2⟩:=aui ha hb;obtain ⟨g1,g2,g3,g4⟩:=h.at e1.1 e1.2;obtain ⟨k1,k2,k3,k4⟩:=h.at e2.1 e2.2;show Er BIG _=_;rw [aiC];dsimp only;rw [at7,af,Mg _ _ (by omega),af];dsimp only;unfold tkE;generalize gF a b=e at *
 simp only [bV e1.1 g1,g2,af,bV e2.1 k1,k2];generalize hp:x1.getD e.1.toNat 0=p at *
 generalize hq:x1.getD e.2.toNat 0=q at *
 by_cases hpq:p=q
 ·subst hpq;rcases lI with rfl|rfl
  ·simp only [decide_true,ai,af,if_true];rw [BF h _ _ _ _ _ _ _ _ _ _ _ _ _ _ _ _ _ _ g3 g4];rfl
  ·simp only [decide_true,ai,af,if_true,show decide ((2:Int)=1)=false from rfl,ax];rw [BF h _ _ _ _ _ _ _ _ _ _ _ _ _ _ _ _ _ _ g3 g4];rfl
 ·simp only [az hpq,ax,af,if_neg hpq];by_cases bn:e∈x2
  ·rcases lI with rfl|rfl
   ·simp only [ak bn,decide_true,ai,bB,af,ax,show decide ((1:Int)=2)=false from rfl,beq_self_eq_true,if_true];rw [jh _ _ _ _ _ _ _ _ _ _ _ _ _ _ (by omega)];rfl
   ·simp only [ak bn,decide_true,ai,bB,af,ax,show decide ((2:Int)=1)=false from rfl,show (true == false)=false from rfl,iK,if_false,if_pos bn];rw [JU _ _ (by omega),af,jh _ _ _ _ _ _ _ _ _ _ _ _ _ _ (by omega)];rfl
  ·rcases lI with rfl|rfl
   ·simp only [az bn,decide_true,ai,gW,af,ax,show (false == true)=false from rfl,iK,if_false,if_neg bn];rw [IY _ _ (by omega),acw (lc h.cuts).2.1 bn,af,jh _ _ _ _ _ _ _ _ _ _ _ _ _ _ (by omega)];rfl
   ·simp only [az bn,decide_true,ai,gW,af,ax,show decide ((2:Int)=1)=false from rfl,beq_self_eq_true,if_true];rw [jh _ _ _ _ _ _ _ _ _ _ _ _ _ _ (by omega)];rfl
theorem ajv (h:HdF x0 x1 x2 x3 x4 x14) (i op a b:Int) (lI:op=1\/op=2) (ha:0<=a/\a<=x0-1) (hb:0<=b/\b<=x0-1):D8 ((x0,x1,x2,x3,x4,0,0,0,0,0,0,0,[],0,x14),(i,op,a,b))=some (GI (tkE x0 x1 x2 x3 x4 x14 i op a b)):=by
 have hm:maxLen=9223372036854775807:=by decide
 have jX:=jV h.cuts;have tX:=h.said;obtain ⟨e1,e2⟩:=aui ha hb;obtain ⟨g1,g2,g3,g4⟩:=h.at e1.1 e1.2;obtain ⟨k1,k2,k3,k4⟩:=h.at e2.1 e2.2;show D7 BIG _=_;rw [ah1];dsimp only;rw [aqL,af];dsimp only;unfold tkE;generalize gF a b=e at *
 have hx:(bif decide (op=(2:Int)) then some (2:Int) else some (1:Int))=some (if op=2 then 2 else 1):=by
  rcases lI with rfl|rfl<;>rfl
 rw [hx,af];simp only [bV e1.1 g1,g2,af,bV e2.1 k1,k2];generalize hp:x1.getD e.1.toNat 0=p at *
 generalize hq:x1.getD e.2.toNat 0=q at *
 by_cases hpq:p=q
 ·subst hpq;simp only [decide_true,ai,if_true];rw [aa3 h _ _ _ _ _ _ _ _ _ _ _ _ _ _ _ _ _ _ g3 g4];rfl
 ·simp only [az hpq,ax,if_neg hpq];rw [Bg _ _ (by omega),af];cases hc:(decide (e∈x2) == decide (op=1)) with
  | true=>
   simp only [ai,if_true];rw [mh _ _ _ _ _ _ _ _ _ _ _ _ _ _ (by omega)];rfl
  | false=>
   simp only [ax,iK,if_false];by_cases bn:e∈x2
   ·simp only [ak bn,ai,if_pos bn];rw [Nj _ _ (by omega),af,af,mh _ _ _ _ _ _ _ _ _ _ _ _ _ _ (by omega)];rfl
   ·simp only [az bn,ax,if_neg bn];rw [QL _ _ (by omega),af,af,mh _ _ _ _ _ _ _ _ _ _ _ _ _ _ (by omega)];rfl
theorem agh {n:Int} {k:Nat} {op a b:Int} (h:wm n k op a b=true):(1<=op/\op<=4)/\(0<=a/\a<=n-1)/\(op=4->1<=b/\b<=k)/\(op≠4->0<=b/\b<=n-1):=by
 unfold wm at h;simp only [aU,aV] at h;refine ⟨h.1,h.2.1,fun h4 => ?_,fun h4 => ?_⟩
 ·have:=h.2.2;rw [ak h4,ai,aV] at this;exact this
 ·have:=h.2.2;rw [az h4,ax,aU,aV] at this;exact this.1
theorem ajw (h:HdF x0 x1 x2 x3 x4 x14) (i op a b:Int):Eu ((x0,x1,x2,x3,x4,0,0,0,0,0,0,0,[],0,x14),(i,op,a,b))=some (GI (Vt x0 x1 x2 x3 x4 x14 i op a b)):=by
 have hm:maxLen=9223372036854775807:=by decide
 have jX:=jV h.cuts;have tX:=h.said;have hk:=h.k;show Et BIG _=_;rw [aiE];dsimp only;rw [afe _ _ _ _ _ _ _ _ _ _ _ _ _ _ _ _ _ _ _ h.n,af];unfold Vt;cases hr:wm x0 x3.length op a b with
 | false=>
  simp only [gW,ai,if_true];rw [jh _ _ _ _ _ _ _ _ _ _ _ _ _ _ (by omega)];rfl
 | true=>
  obtain ⟨r1,r2,r3,r4⟩:=agh hr;simp only [bB,ax,Bool.true_eq_false,if_false];by_cases h3:op=3
  ·subst h3;have hb:=r4 (by omega);have hl:=h.wl_len;simp only [decide_true,ai,if_true];have G7:a.toNat<(B_ x0 x3 x2).1.length:=by omega
   have b_:b.toNat<(B_ x0 x3 x2).1.length:=by omega
   rw [acA _ _ _ (by omega) (by omega),af];dsimp only;rw [bV r2.1 (by omega),getD_at G7,af,bV hb.1 (by omega),getD_at b_,af,ajo,af];rw [jh _ _ _ _ _ _ _ _ _ _ _ _ _ _ (by omega)];simp only [decide_eq_true_eq];rfl
  ·simp only [az h3,ax,if_neg h3];by_cases h4:op=4
   ·subst h4;obtain ⟨g1,g2,g3,g4⟩:=h.at r2.1 r2.2;simp only [decide_true,ai,if_true,bV r2.1 g1,g2,af];by_cases d9:x1.getD a.toNat 0=b
    ·rw [ak d9,if_pos d9,ai,jh _ _ _ _ _ _ _ _ _ _ _ _ _ _ (by omega)];rfl
    ·rw [az d9,if_neg d9,ax,BF h _ _ _ _ _ _ _ _ _ _ _ _ _ _ _ _ _ _ g3 g4];rfl
   ·simp only [az h4,ax,af,if_neg h4];rw [aju h i op a b (by omega) r2 (r4 h4)];rfl
end
noncomputable def Fa (x0:Int) (x1:aa Int) (x2:aa Ed) (x3:aa (aa Int)) (x4:aa Int) (x5 x6 x7 x8 x9 x10 x11:Int) (x12:aa Ed) (x13:Int) (x14:aa Sd) (i:Int):Bool:=
 uB x0 x1 x2 x3 x4 x14 (su x0 x3.length x4 x14 x5 x6 x7 x8 x9 (x10,x11,x12,x13))&&(aW i 1 100000&&(!decide (0<=sA x14 i)&&(decide (x9=0) && !decide ((80:Int)<=(x14.length:Int)))))
noncomputable def Vu (x0:Int) (x1:aa Int) (x2:aa Ed) (x3:aa (aa Int)) (x4:aa Int) (x5 x6 x7 x8 x9 x10 x11:Int) (x12:aa Ed) (x13:Int) (x14:aa Sd) (i op a b:Int):Nk:=
 if Fa x0 x1 x2 x3 x4 x5 x6 x7 x8 x9 x10 x11 x12 x13 x14 i=true then Vt x0 x1 x2 x3 x4 x14 i op a b else (x0,x1,x2,x3,x4,x5,x6,x7,x8,x9,x10,x11,x12,x13,x14,0)
theorem Sb {x0:Int} {x1:aa Int} {x2:aa Ed} {x3:aa (aa Int)} {x4:aa Int} {x5 x6 x7 x8 x9 x10 x11:Int} {x12:aa Ed} {x13:Int} {x14:aa Sd} {i:Int} (h:Fa x0 x1 x2 x3 x4 x5 x6 x7 x8 x9 x10 x11 x12 x13 x14 i=true) :
  HdF x0 x1 x2 x3 x4 x14/\x5=0/\x6=0/\x7=0/\x8=0/\x9=0/\x10=0/\x11=0/\x12=[]/\x13=0:=by
 unfold Fa at h;simp only [aU,decide_eq_true_eq] at h;obtain ⟨h1,h2,h3,h4,h5⟩:=h;obtain ⟨hF,ht⟩:=aBu h1;subst h4;unfold su at ht;rw [iT] at ht;rcases ht with ht|ht
 ·unfold tB blQ blO at ht;simp only [aU,decide_eq_true_eq] at ht;obtain ⟨⟨b1,b2,b3,b4⟩,_,c1,c2,c3,c4⟩:=ht;exact ⟨hF,b1,b2,b3,b4,rfl,c1,c2,qL.1 c3,c4⟩
 ·simp only [aU,aV] at ht;omega
section
variable (x0:Int) (x1:aa Int) (x2:aa Ed) (x3:aa (aa Int)) (x4:aa Int) (x5 x6 x7 x8 x9 x10 x11:Int) (x12:aa Ed) (x13:Int) (x14:aa Sd) (i op a b:Int) (h1:x1.length<=1048576) (h2:x2.length<=1048576) (h3:x3.length<=1048576/\∀y,y∈x3->y.length<=1048576) (h4:x4.length<=1048576) (dO:x12.length<=1048576) (nD:x14.length<=1048576)
include h1 h2 h3 h4 dO nD
theorem azD:Dc ((x0,x1,x2,x3,x4,x5,x6,x7,x8,x9,x10,x11,x12,x13,x14),(i,op,a,b))=some (Vu x0 x1 x2 x3 x4 x5 x6 x7 x8 x9 x10 x11 x12 x13 x14 i op a b,()):=by
 show acp BIG _=_;rw [azr,Vs x0 x1 x2 x3 x4 x5 x6 x7 x8 x9 x10 x11 x12 x13 x14 h1 h2 h3 h4 dO nD,af];dsimp only;rw [QP x0 x1 x2 x3 x4 x5 x6 x7 x8 x9 x10 x11 x12 x13 x14 h1 h2 h3 dO nD,iV,QO x14 i nD,anQ];have hx:(Option.bind (some (uB x0 x1 x2 x3 x4 x14 (su x0 x3.length x4 x14 x5 x6 x7 x8 x9 (x10,x11,x12,x13)),())) fun r1:Bool × Unit=>
   bif !r1.1 then some true else Option.bind (some (aW i 1 100000,())) fun r2:Bool × Unit=>bif !r2.1 then some true else Option.bind (some (sA x14 i,())) fun r3:Int × Unit=>bif decide ((0:Int)<=r3.1) then some true else Option.bind (some (!decide (x9=0),())) fun r4:Bool × Unit=>bif r4.1 then some true else some (decide ((80:Int)<=(x14.length:Int))))=some (!Fa x0 x1 x2 x3 x4 x5 x6 x7 x8 x9 x10 x11 x12 x13 x14 i):=by
  unfold Fa;simp only [af];cases uB x0 x1 x2 x3 x4 x14 (su x0 x3.length x4 x14 x5 x6 x7 x8 x9 (x10,x11,x12,x13))<;>cases aW i 1 100000<;>cases decide ((0:Int)<=sA x14 i)<;>cases decide (x9=0)<;>cases decide ((80:Int)<=(x14.length:Int))<;>rfl
 refine (congrArg (fun o=>Option.bind o _) hx).trans ?_;unfold Vu;cases aT:Fa x0 x1 x2 x3 x4 x5 x6 x7 x8 x9 x10 x11 x12 x13 x14 i with
 | false=>rfl
 | true=>
  obtain ⟨hF,rfl,rfl,rfl,rfl,rfl,rfl,rfl,rfl,rfl⟩:=Sb aT;simp only [bB,af,ax,if_true];rw [ajw hF];rfl
theorem azE:Db ((x0,x1,x2,x3,x4,x5,x6,x7,x8,x9,x10,x11,x12,x13,x14),(i,op,a,b))=some (Vu x0 x1 x2 x3 x4 x5 x6 x7 x8 x9 x10 x11 x12 x13 x14 i op a b,()):=by
 have hm:maxLen=9223372036854775807:=by decide
 show acb BIG _=_;rw [azk,CW x0 x1 x2 x3 x4 x5 x6 x7 x8 x9 x10 x11 x12 x13 x14 h1 h2 h3 h4 dO nD,af];dsimp only;rw [QQ x0 x1 x2 x3 x4 x5 x6 x7 x8 x9 x10 x11 x12 x13 x14 h1 h2 h3 dO nD,dH,Mk x0 x1 x2 x3 x4 x5 x6 x7 x8 x9 x10 x11 x12 x13 x14 i nD,acx];have hx:(Option.bind (some (uB x0 x1 x2 x3 x4 x14 (su x0 x3.length x4 x14 x5 x6 x7 x8 x9 (x10,x11,x12,x13)),())) fun r1:Bool × Unit=>
   bif !r1.1 then some true else Option.bind (some (aW i 1 100000,())) fun r2:Bool × Unit=>bif !r2.1 then some true else Option.bind (some (sA x14 i,())) fun r3:Int × Unit=>bif decide ((0:Int)<=r3.1) then some true else Option.bind (some (!decide (x9=0),())) fun r4:Bool × Unit=>bif r4.1 then some true else some (decide ((80:Int)<=(x14.length:Int))))=some (!Fa x0 x1 x2 x3 x4 x5 x6 x7 x8 x9 x10 x11 x12 x13 x14 i):=by
  unfold Fa;simp only [af];cases uB x0 x1 x2 x3 x4 x14 (su x0 x3.length x4 x14 x5 x6 x7 x8 x9 (x10,x11,x12,x13))<;>cases aW i 1 100000<;>cases decide ((0:Int)<=sA x14 i)<;>cases decide (x9=0)<;>cases decide ((80:Int)<=(x14.length:Int))<;>rfl
 refine (congrArg (fun o=>Option.bind o _) hx).trans ?_;unfold Vu;cases aT:Fa x0 x1 x2 x3 x4 x5 x6 x7 x8 x9 x10 x11 x12 x13 x14 i with
 | false=>rfl
 | true=>
  obtain ⟨hF,rfl,rfl,rfl,rfl,rfl,rfl,rfl,rfl,rfl⟩:=Sb aT;have jX:=jV hF.cuts;have tX:=hF.said;have hk:=hF.k;simp only [bB,af,ax,if_true];rw [Vr _ _ _ _ _ _ _ _ _ _ _ _ _ _ _ _ _ _ _ hF.n,af];unfold Vt;cases hr:wm x0 x3.length op a b with
  | false=>
   simp only [gW,ai,if_true];rw [mh _ _ _ _ _ _ _ _ _ _ _ _ _ _ (by omega)];rfl
  | true=>
   obtain ⟨r1,r2,r3,r4⟩:=agh hr;simp only [bB,ax,Bool.true_eq_false,if_false];by_cases h3':op=3
   ·subst h3';have hb:=r4 (by omega);have hl:=hF.wl_len;simp only [decide_true,ai,if_true];have G7:a.toNat<(B_ x0 x3 x2).1.length:=by omega
    have b_:b.toNat<(B_ x0 x3 x2).1.length:=by omega
    rw [acB _ _ _ (by omega) (by omega),if_pos (by omega),af];dsimp only;rw [bV r2.1 (by omega),getD_at G7,af,bV hb.1 (by omega),getD_at b_,af];by_cases d9:(B_ x0 x3 x2).1.getD a.toNat 0=(B_ x0 x3 x2).1.getD b.toNat 0
    ·rw [ak d9,if_pos d9,ai,af,mh _ _ _ _ _ _ _ _ _ _ _ _ _ _ (by omega)];rfl
    ·rw [az d9,if_neg d9,ax,af,mh _ _ _ _ _ _ _ _ _ _ _ _ _ _ (by omega)];rfl
   ·simp only [az h3',ax,if_neg h3'];by_cases h4':op=4
    ·subst h4';obtain ⟨g1,g2,g3,g4⟩:=hF.at r2.1 r2.2;simp only [decide_true,ai,if_true,bV r2.1 g1,g2,af];by_cases d9:x1.getD a.toNat 0=b
     ·rw [ak d9,if_pos d9,ai,mh _ _ _ _ _ _ _ _ _ _ _ _ _ _ (by omega)];rfl
     ·rw [az d9,if_neg d9,ax,aa3 hF _ _ _ _ _ _ _ _ _ _ _ _ _ _ _ _ _ _ g3 g4];rfl
    ·simp only [az h4',ax,if_neg h4'];rw [ajv hF i op a b (by omega) r2 (r4 h4')];rfl
end
theorem aa4 (l:aa Ed) (e:Ed):(del l e).length<=l.length:=qM _ _
theorem ajx {α:Type} (p q:α->Bool) (h:∀x,p x=true->q x=true->False):∀l:aa α,(l.filter p).length+(l.filter q).length<=l.length
 | []=>by simp
 | x::l=>by
  have ih:=ajx p q h l;rw [Kg,Kg,bF];cases hp:p x<;>cases hq:q x<;>simp only [iK,if_false,if_true,bF]<;>first
   | omega
   | exact absurd hq (fun hq=>h x hp hq)
theorem aa5 (l:aa Ed) (e:Ed):(ins l e).length<=l.length+1:=by
 unfold ins;have:=ajx (fun y=>lsB y e) (fun y=>lsB e y) (fun x h1 h2=>by
  simp only [lsB,iT,aU,decide_eq_true_eq] at h1 h2
  omega) l
 simp only [dP,bF,bQ];omega
theorem azF (x0:Int) (x1:aa Int) (x2:aa Ed) (x3:aa (aa Int)) (x4:aa Int) (x14:aa Sd) (i op a b:Int) :
  ∃(c:aa Ed) (t1 t2 t3 t4 t5 t6 t7:Int) (t8:aa Ed) (t9:Int) (s:aa Sd) (m:Int),Vt x0 x1 x2 x3 x4 x14 i op a b=(x0,x1,c,x3,x4,t1,t2,t3,t4,t5,t6,t7,t8,t9,s,m)/\c.length<=x2.length+1/\t8.length<=1/\s.length<=x14.length+1:=by
 have say:∀(c:aa Ed) (v:Int),c.length<=x2.length+1->∃(c':aa Ed) (t1 t2 t3 t4 t5 t6 t7:Int) (t8:aa Ed) (t9:Int) (s:aa Sd) (m:Int),E_ x0 x1 c x3 x4 x14 i op a b v=(x0,x1,c',x3,x4,t1,t2,t3,t4,t5,t6,t7,t8,t9,s,m)/\c'.length<=x2.length+1/\t8.length<=1/\s.length<=x14.length+1:=fun c v hc=>⟨_,_,_,_,_,_,_,_,_,_,_,_,rfl,hc,by simp,by simp⟩
 have ord:∀(sh o:Int) (es:aa Ed) (v:Int),es.length<=1->∃(c':aa Ed) (t1 t2 t3 t4 t5 t6 t7:Int) (t8:aa Ed) (t9:Int) (s:aa Sd) (m:Int),aqM x0 x1 x2 x3 x4 x14 i op a b sh o es v=(x0,x1,c',x3,x4,t1,t2,t3,t4,t5,t6,t7,t8,t9,s,m)/\c'.length<=x2.length+1/\t8.length<=1/\s.length<=x14.length+1:=fun sh o es v hc=>⟨_,_,_,_,_,_,_,_,_,_,_,_,rfl,by omega,hc,by omega⟩
 unfold Vt tkE;split
 ·exact say _ _ (by omega)
 ·split
  ·exact say _ _ (by omega)
  ·split
   ·split
    ·exact say _ _ (by omega)
    ·exact ord _ _ _ _ (by simp)
   ·split
    ·exact ord _ _ _ _ (by simp)
    ·split
     ·exact say _ _ (by omega)
     ·refine say _ _ ?_;split
      ·have:=aa4 x2 (gF a b);omega
      ·exact aa5 _ _
theorem azG {n k i:Nat} (h:i<n):(IZ n k)[i]?=some (1+((i % k:Nat):Int)):=by
 unfold IZ;rw [kE,Rm h];rfl
theorem ajy (n k:Nat):(IZ n k).length=n:=by simp [IZ]
theorem dV {X B C:Type} {F:(X->ah B)->X->ah B} (I:X->Prop) (μ:X->Nat) (Q:X->B->Prop) (P:ah C->Prop) {x:X} {k:B->ah C} (hx:μ x<BIG) (hi:I x)
  (h:∀self x,I x->(∀y,I y->μ y<μ x->∃b,self y=some b/\Q y b)->∃b,F self x=some b/\Q x b) (hk:∀b,Q x b->P (k b)):P (Option.bind (aJ BIG F x) k):=by
 obtain ⟨b,h1,h2⟩:=pR (F:=F) I μ Q h hx hi;rw [h1];exact hk b h2
theorem alT (a b:aa Int) (ha:a.length<=maxLen):IK (a,b)=some (decide (a=b),()):=by
 rw [<-tH a b ha];show IJ BIG _=oL BIG _;rw [alA,zl];all_goals rfl
theorem alU (a b:aa Int) (ha:a.length<=maxLen):IV (a,b)=some (decide (a=b),()):=by
 rw [<-tH a b ha];show IU BIG _=oL BIG _;rw [alK,zl];all_goals rfl
theorem af0 (a:aa Int) (ha:a.length<=1048576):∃p,uP a=some (p,())/\p.length=12/\∀x,x∈p->0<=x/\x<10000:=by
 have hm:maxLen=9223372036854775807:=by decide
 have e:uP a=BB BIG a:=rfl;rw [e,afR];obtain ⟨c,k,o⟩:=QN a ha;obtain ⟨b,c1,k1,o1,_⟩:=xQ c o;rw [k,af,k1,af];refine dV (P:=fun o=>∃p:aa Int,o=some (p,())/\p.length=12/\∀x,x∈p->0<=x/\x<10000) (fun (x:aa Int × Bh × Int)=>∃i:Nat,x.2.2=(i:Int)/\i<=12/\x.1.length=i/\j_ x.2.1/\∀y,y∈x.1->0<=y/\y<10000) (fun x=>12-x.2.2.toNat) (fun _ (b:aa Int)=>b.length=12/\∀x,x∈b->0<=x/\x<10000) (by simp [BIG]) ⟨0,rfl,by omega,rfl,o1,fun y hy=>by cases hy⟩ (fun self x ⟨i,h1,h2,h3,h4,h5⟩ hs => ?_) (fun b h=>⟨b,rfl,h⟩);obtain ⟨s,cu,j⟩:=x;simp only at h1 h3 h4 h5;subst h1;by_cases hi:i<12
 ·simp only [show ((i:Int)<12) from by omega,decide_true,ai];obtain ⟨r,c2,k2,o2,r0,r1,_⟩:=jg cu 10000 h4 (by decide);rw [k2,af,ak (by simp only [bF,bQ];omega),ai,bT (by omega)];refine hs _ ⟨i+1,rfl,hi,by simp only [dP,bF,bQ];omega,o2,fun y hy => ?_⟩ (by simp;omega);simp only [bG,cK] at hy;rcases hy with hy|rfl
  ·exact h5 y hy
  ·exact ⟨r0,r1 (by decide)⟩
 ·have:i=12:=by omega
  subst this;simp only [show ¬(((12:Nat):Int)<12) from by omega,decide_false,ax];exact ⟨_,rfl,h3,h5⟩
theorem auj {l:aa Int} {v:Nat} {x:Int} (h:l[v]?=some x):(x,(v:Int))∈BZ l:=by
 unfold BZ;refine bX.2 ⟨(x,v),?_,rfl⟩;have:l.zipIdx[v]?=some (x,v):=by rw [List.getElem?_zipIdx,h];simp
 exact eY this
theorem auk {l:aa Int} {e:Ed} (h:e∈BZ l):∃v:Nat,l[v]?=some e.1/\e.2=(v:Int):=by
 obtain ⟨p,hp,rfl⟩:=bX.1 h;obtain ⟨i,hi⟩:=List.mem_iff_getElem?.1 hp;obtain ⟨h1,h2⟩:=JV hi;exact ⟨i,h1,by simp [h2]⟩
theorem azH {n:Nat} {A:aa Ed} (h:oN n A):pL (n:Int) (labs n A)=true:=by
 have hL:=kZ h;unfold pL;rw [ak (by rw [dU]),dY];unfold vP;rw [bW];intro p hp;obtain ⟨i,hi⟩:=List.mem_iff_getElem?.1 hp;obtain ⟨h1,h2⟩:=JV hi;have:=hL.le h1;have:=hL.lt h1;rw [aV,h2];omega
theorem GJ {es:aa Ed} (h:uA es):es.Nodup:=by
 refine List.Pairwise.imp (fun {a b} d9 => ?_) h;rintro rfl;rw [aaV] at d9;cases d9
theorem ajz:∀{A:aa Ed} {s s':aa Ed},fM BX s A=some s'->s'=A.foldl ins s
 | [],s,s',h=>by simp only [fM,aN] at h;exact h.symm
 | e::A,s,s',h=>by
  rw [fM] at h;cases he:BX s e with
  | none=>rw [he] at h;cases h
  | some s1=>
   rw [he] at h;obtain ⟨_,rfl⟩:=Xe he;exact ajz (A:=A) (s:=ins s e) h
def qI (cuts es:aa Ed):aa Ed:=es.foldl ins cuts
def mU (own:aa Int) (cuts es:aa Ed) (a b:Int):aa Ed:=(qI cuts es).filter (E5 (own.set a.toNat b) b)
def Mm (x0:Int) (x1:aa Int) (x2:aa Ed) (x3:aa (aa Int)) (x4:aa Int) (x14:aa Sd) (i op a b:Int) (es:aa Ed):Nk:=
 if ∀e,e∈es->e∉x2 then
  (if (mU x1 x2 es a b).length=0 then E_ x0 (x1.set a.toNat b) (qI x2 es) x3 x4 x14 i op a b 1
   else aqM x0 (x1.set a.toNat b) ((mU x1 x2 es a b).foldl del (qI x2 es)) x3 x4 x14 i op a b b 4 (mU x1 x2 es a b) 0)
 else E_ x0 x1 x2 x3 x4 x14 i op a b 3
theorem Xf (cuts:aa Ed):∀es:aa Ed,(qI cuts es).length<=cuts.length+es.length:=by
 unfold qI;intro es;induction es generalizing cuts with
 | nil=>simp
 | cons e es ih=>
  rw [gH,bF];have:=ih (ins cuts e);have:=aa5 cuts e;omega
theorem af1 (l:aa Ed):∀cuts:aa Ed,(l.foldl del cuts).length<=cuts.length:=by
 induction l with
 | nil=>intro c;simp
 | cons e l ih=>
  intro c;rw [gH];have:=ih (del c e);have:=aa4 c e;omega
theorem aDk (x0:Int) (x1:aa Int) (x2:aa Ed) (x3:aa (aa Int)) (x4:aa Int) (x14:aa Sd) (x5 x6 x7 x8 x9 x10 x11:Int) (x12:aa Ed) (x13:Int) (i op a b sh q o:Int) (es:aa Ed) (v:Int) (hn:x4.length<=1000000) (h1:1<=sh) (h2:sh<=x4.length) (h3:0<=x4.getD (sh-1).toNat 0/\x4.getD (sh-1).toNat 0<=1000000):lu ((x0,x1,x2,x3,x4,x5,x6,x7,x8,x9,x10,x11,x12,x13,x14),(i,op,a,b),sh,(q,o,es,v))=some (2,(x0,x1,x2,x3,x4,i,op,a,b,sh,x4.getD (sh-1).toNat 0+1,o,es,v,x14)):=by
 have hi:(sh-1).toNat<x4.length:=by omega
 show uN BIG _=_;rw [M8];dsimp only;rw [wr (n:=sh-1) (by omega) (by omega),bV (by omega) (by omega),getD_at hi,af,wr (by omega) (by omega)]
theorem aDl (x0:Int) (x1:aa Int) (x2:aa Ed) (x3:aa (aa Int)) (x4:aa Int) (x14:aa Sd) (x5 x6 x7 x8 x9 x10 x11:Int) (x12:aa Ed) (x13:Int) (i op a b sh q o:Int) (es:aa Ed) (v:Int) (hn:x4.length<=1000000) (h1:1<=sh) (h2:sh<=x4.length) (h3:0<=x4.getD (sh-1).toNat 0/\x4.getD (sh-1).toNat 0<=1000000):El ((x0,x1,x2,x3,x4,x5,x6,x7,x8,x9,x10,x11,x12,x13,x14),(i,op,a,b),sh,(q,o,es,v))=some (2,(x0,x1,x2,x3,x4,i,op,a,b,sh,x4.getD (sh-1).toNat 0+1,o,es,v,x14)):=by
 have hi:(sh-1).toNat<x4.length:=by omega
 show Ej BIG _=_;rw [aig];dsimp only;rw [wr (n:=sh-1) (by omega) (by omega),bV (by omega) (by omega),getD_at hi,af,wr (by omega) (by omega)]
theorem aBv (x0:Int) (x1:aa Int) (x2:aa Ed) (x3:aa (aa Int)) (x4:aa Int) (x14:aa Sd) (x5 x6 x7 x8 x9 x10 x11:Int) (x12:aa Ed) (x13:Int) (i op a b v:Int) (h:x14.length<=1048576):Ad ((x0,x1,x2,x3,x4,x5,x6,x7,x8,x9,x10,x11,x12,x13,x14),(i,op,a,b),v)=some ((),(x0,x1,x2,x3,x4,0,0,0,0,0,0,0,[],0,x14++[(i,i,op,a,b,v)])):=by
 show Ij BIG _=_;rw [ak9];dsimp only;rw [ak (by simp only [bF,bQ];omega),ai]
section
variable (x0:Int) (x1:aa Int) (x2:aa Ed) (x3:aa (aa Int)) (x4:aa Int) (x14:aa Sd) (i op a b:Int) (es:aa Ed)
theorem Xg (h0:1<=x0/\x0<=12) (h1:(x1.length:Int)=x0) (h2:uA x2/\x2.length<=66) (h3:x3.length<=3) (h4:x4.length=x3.length) (nD:x14.length<=80) (he:uA es/\es.length<=66) (ha:0<=a/\a<=x0-1) (hb:1<=b/\b<=x3.length) (hn:∀j,j<x4.length->0<=x4.getD j 0/\x4.getD j 0<=1000000) :
  vD ((x0,x1,x2,x3,x4,0,0,0,0,0,0,0,[],0,x14),(i,op,a,b),es)=some (GI (Mm x0 x1 x2 x3 x4 x14 i op a b es)):=by
 have hm:maxLen=9223372036854775807:=by decide
 show vC BIG _=_;rw [WQ];dsimp only;rw [vJ es (by omega) (fun _ (s:Hd)=>s=(x0,x1,x2,x3,x4,0,0,0,0,0,0,0,[],0,x14)) (fun s e=>if (!decide (e∈x2))=true then some s else none) ((1,(x0,x1,x2,x3,x4,0,0,0,0,0,0,0,[],0,x14++[(i,i,op,a,b,3)])):Int × Hd) rfl (fun j s y s' hy hs gP=>by
  split at gP
  ·cases gP;exact hs
  ·cases gP) (fun self s j y hy hs => ?_) (fun self s hs=>by simp)]
 ·rw [Bi];have hc:(es.all fun e=>!decide (e∈x2))=decide (∀e,e∈es->e∉x2):=by
   rw [Bool.eq_iff_iff,bW,decide_eq_true_eq];exact ⟨fun h e he=>by simpa using h e he,fun h e he=>by simpa using h e he⟩
  rw [hc];unfold Mm;by_cases eD:∀e,e∈es->e∉x2
  ·rw [ak eD,if_pos rfl,if_pos eD];have ark:∀(l:aa Ed) (s:Hd),l.foldl (fun s _=>s) s=s:=by
    intro l;induction l with
    | nil=>intro s;rfl
    | cons e l ih=>intro s;rw [gH,ih]
   rw [ark,af];simp only;rw [wr (n:=x0-1) (by omega) (by omega),iV,iV];rw [show aW a 0 (x0-1)=true from aV.2 ha,show aW b 1 (x3.length:Int)=true from aV.2 hb];simp only [af,bB,ax];have Ha:=GJ he.1;rw [jS es (by omega) (fun j (s:Hd)=>s=(x0,x1,(es.take j).foldl ins x2,x3,x4,0,0,0,0,0,0,0,[],0,x14)/\uA s.2.2.1/\s.2.2.1.length<=66+j/\∀e,e∈es.drop j->e∉s.2.2.1) (fun s e=>(s.1,s.2.1,ins s.2.2.1 e,s.2.2.2)) id (by exact ⟨rfl,h2.1,by show x2.length<=66+0;omega,eD⟩) (fun j s y hy ⟨k1,k2,k3,k4⟩ => ?_) (fun self s j y hy ⟨k1,k2,k3,k4⟩ => ?_) (fun self s _=>by simp)]
   ·have hff:∀(l:aa Ed) (c:aa Ed),l.foldl (fun (s:Hd) e=>(s.1,s.2.1,ins s.2.2.1 e,s.2.2.2)) (x0,x1,c,x3,x4,0,0,0,0,0,0,0,[],0,x14)=(x0,x1,l.foldl ins c,x3,x4,0,0,0,0,0,0,0,[],0,x14):=by
     intro l;induction l with
     | nil=>intro c;rfl
     | cons e l ih=>intro c;rw [gH,gH,ih]
    have hai:a.toNat<x1.length:=by omega
    have hCl:=Xf x2 es;have hIl:(mU x1 x2 es a b).length<=(qI x2 es).length:=qM _ _;rw [hff];simp only [id,af];rw [bV ha.1 (by omega),aR hai,af,atT _ _ _ (by rw [lL];omega) (by show (qI x2 es).length<=_;omega),af];have e1:List.filter (E5 (x1.set a.toNat b) b) (es.foldl ins x2)=mU x1 x2 es a b:=rfl;have e2:es.foldl ins x2=qI x2 es:=rfl;simp only [e1];rw [e2];by_cases hI:(mU x1 x2 es a b).length=0
    ·rw [ak (by omega),ai,if_pos hI,jh _ _ _ _ _ _ _ _ _ _ _ _ _ _ (by omega)];rfl
    ·rw [az (by omega),ax,if_neg hI];rw [jS (mU x1 x2 es a b) (by omega) (fun j (s:Hd)=>s.2.2.1.length<=132) (fun s e=>(s.1,s.2.1,del s.2.2.1 e,s.2.2.2)) id (by simp only;omega) (fun j s y hy hs=>by
      have:=aa4 s.2.2.1 y
      simp only;omega) (fun self s j y hy hs => ?_) (fun self s _=>by simp)]
     ·have hdd:∀(l:aa Ed) (o:aa Int) (c:aa Ed),l.foldl (fun (s:Hd) e=>(s.1,s.2.1,del s.2.2.1 e,s.2.2.2)) (x0,o,c,x3,x4,0,0,0,0,0,0,0,[],0,x14)=(x0,o,l.foldl del c,x3,x4,0,0,0,0,0,0,0,[],0,x14):=by
       intro l o;induction l with
       | nil=>intro c;rfl
       | cons e l ih=>intro c;rw [gH,gH,ih]
      rw [hdd];simp only [id,af];rw [aDk _ _ _ _ _ _ _ _ _ _ _ _ _ _ _ _ _ _ _ _ _ _ _ _ (by omega) hb.1 (by omega) (hn _ (by omega))];rfl
     ·have hj:=(aZ hy).1;simp only [show ((j:Int)<((mU x1 x2 es a b).length:Int)) from by omega,decide_true,ai];rw [aF hj,hy,af,JU _ _ (by omega),af,bT (by omega)]
   ·have hj:=(aZ hy).1;have ht:es.take (j+1)=es.take j++[y]:=by
     rw [rC hj];rw [aR hj,aN] at hy;rw [hy]
    have hd:es.drop j=y::es.drop (j+1):=by
     rw [uU hj];rw [aR hj,aN] at hy;rw [hy]
    subst k1;refine ⟨?_,acv k2,?_,fun e Hl bn => ?_⟩
    ·rw [ht,pF];rfl
    ·have:=aa5 ((es.take j).foldl ins x2) y;simp only at k3 ⊢;omega
    ·rcases mG.1 bn with rfl|bn
     ·have hnn:(es.drop j).Nodup:=Ha.sublist (List.drop_sublist _ _);rw [hd,nJ] at hnn;exact hnn.1 Hl
     ·exact k4 e (by rw [hd];exact dQ _ Hl) bn
   ·have hj:=(aZ hy).1;simp only [show ((j:Int)<(es.length:Int)) from by omega,decide_true,ai];have I4:y∈es.drop j:=by
     rw [uU hj];rw [aR hj,aN] at hy;rw [hy];exact dW ..
    rw [aF hj,hy,af,IY _ _ (by omega),acw k2 (k4 y I4),af,bT (by omega)]
  ·rw [az eD,if_neg (by simp),if_neg eD];rfl
 ·have hj:=(aZ hy).1;simp only [show ((j:Int)<(es.length:Int)) from by omega,decide_true,ai];subst hs;rw [aF hj,hy,af,Mg _ _ (by simp only;omega),af,bT (by omega)];simp only;by_cases bn:y∈x2
  ·rw [ak bn,ai,jh _ _ _ _ _ _ _ _ _ _ _ _ _ _ (by omega)];simp
  ·rw [az bn,ax];simp
theorem alV (x5 x6 x7 x8 x9 x10 x11:Int) (x12:aa Ed) (x13:Int) (h0:1<=x0/\x0<=12) (h1:(x1.length:Int)=x0) (h2:uA x2/\x2.length<=66) (h3:x3.length<=3) (h4:x4.length=x3.length) (nD:x14.length<=80) (he:uA es/\es.length<=66) (ha:0<=a/\a<=x0-1) (hb:1<=b/\b<=x3.length) (hn:∀j,j<x4.length->0<=x4.getD j 0/\x4.getD j 0<=1000000) :
  Il ((x0,x1,x2,x3,x4,x5,x6,x7,x8,x9,x10,x11,x12,x13,x14),(i,op,a,b),es)=some (GI (Mm x0 x1 x2 x3 x4 x14 i op a b es)):=by
 have hm:maxLen=9223372036854775807:=by decide
 show Ik BIG _=_;rw [ala];dsimp only;rw [ax2 es (by omega) (mk:=fun (s:Hd × aa Ed) (j:Int)=>((s.1,s.2,j):Hd × aa Ed × Int)) (I:=fun j (s:Hd × aa Ed)=>s.1=(x0,x1,x2,x3,x4,x5,x6,x7,x8,x9,x10,x11,x12,x13,x14)/\s.2.length<=66+j) (st:=fun s e=>(BX s.2 e).map fun c=>(s.1,c)) (R:=id) (b:=((1,(x0,x1,x2,x3,x4,0,0,0,0,0,0,0,[],0,x14++[(i,i,op,a,b,3)])):Int × Hd)) (s0:=((x0,x1,x2,x3,x4,x5,x6,x7,x8,x9,x10,x11,x12,x13,x14),x2)) ⟨rfl,by simp only;omega⟩ (fun j s s' y hy ⟨k1,k2⟩ gP => ?_) (fun self s j y hy ⟨k1,k2⟩ => ?_) (fun self s hs=>by simp)]
 ·have hfm:∀(l:aa Ed) (h:Hd) (c:aa Ed),fM (fun (s:Hd × aa Ed) e=>(BX s.2 e).map fun c=>(s.1,c)) (h,c) l=(fM BX c l).map fun c=>(h,c):=by
   intro l h;induction l with
   | nil=>intro c;rfl
   | cons e l ih=>
    intro c;rw [fM,fM];simp only;cases BX c e with
    | none=>rfl
    | some c'=>simp only [dx,af,ih]
  rw [hfm];unfold Mm;by_cases eD:∀e,e∈es->e∉x2
  ·rw [if_pos eD];obtain ⟨s',g_⟩:=ax1 (s:=x2) (GJ he.1) eD;have hse:=ajz g_;rw [g_];have Fy:s'=qI x2 es:=hse;subst Fy;have hai:a.toNat<x1.length:=by omega
   have hCl:=Xf x2 es;have hIl:(mU x1 x2 es a b).length<=(qI x2 es).length:=qM _ _;simp only [dx,id,af];rw [bV ha.1 (by omega),aR hai,af,atU _ _ _ (by rw [lL];omega) (by omega),af];have e1:List.filter (E5 (x1.set a.toNat b) b) (qI x2 es)=mU x1 x2 es a b:=rfl;simp only [e1];rw [jS (mU x1 x2 es a b) (by omega) (fun j (s:aa Ed)=>s.length<=132) del id (by omega) (fun j s y hy hs=>by
    have:=aa4 s y
    omega) (fun self s j y hy hs => ?_) (fun self s _=>by simp)]
   ·simp only [id,af];by_cases hI:(mU x1 x2 es a b).length=0
    ·rw [ak (by omega),ai,if_pos hI,qL.1 hI,aBv _ _ _ _ _ _ _ _ _ _ _ _ _ _ _ _ _ _ _ _ (by omega)];rfl
    ·rw [az (by omega),ax,if_neg hI,aDl _ _ _ _ _ _ _ _ _ _ _ _ _ _ _ _ _ _ _ _ _ _ _ _ (by omega) hb.1 (by omega) (hn _ (by omega))];rfl
   ·have hj:=(aZ hy).1;simp only [show ((j:Int)<((mU x1 x2 es a b).length:Int)) from by omega,decide_true,ai];rw [aF hj,hy,af,Nj _ _ (by omega),af,bT (by omega)]
  ·rw [if_neg eD];have aDw:fM BX x2 es=none:=by
    cases hf:fM BX x2 es with
    | none=>rfl
    | some s'=>exact absurd (anP hf).2.1 eD
   rw [aDw];rfl
 ·obtain ⟨h,c⟩:=s;simp only at k1 k2 gP;cases hc:BX c y with
  | none=>rw [hc] at gP;cases gP
  | some c'=>
   rw [hc] at gP;simp only [dx,aN] at gP;subst gP;obtain ⟨_,rfl⟩:=Xe hc;have:=aa5 c y;exact ⟨k1,by simp only;omega⟩
 ·obtain ⟨h,c⟩:=s;simp only at k1 k2;subst k1;have hj:=(aZ hy).1;simp only [show ((j:Int)<(es.length:Int)) from by omega,decide_true,ai];rw [aF hj,hy,af,Bg _ _ (by omega),af,bT (by omega)];unfold BX;by_cases bn:y∈c
  ·rw [ak bn,ai,aBv _ _ _ _ _ _ _ _ _ _ _ _ _ _ _ _ _ _ _ _ (by omega),if_pos bn];rfl
  ·rw [az bn,ax,if_neg bn,aF hj,hy,af,QL _ _ (by omega),af];rfl
end
noncomputable def Fb (x0:Int) (x1:aa Int) (x2:aa Ed) (x3:aa (aa Int)) (x4:aa Int) (x5 x6 x7 x8 x9 x10 x11:Int) (x12:aa Ed) (x13:Int) (x14:aa Sd) (sh:Int) (y:An):Bool:=
 uB x0 x1 x2 x3 x4 x14 (su x0 x3.length x4 x14 x5 x6 x7 x8 x9 (x10,x11,x12,x13))&&(pW x0 y&&(!decide (x9=0)&&(decide (sh=x9)&&decide (y.1=x10))))
def QT (x0:Int) (x1:aa Int) (x2:aa Ed) (x3:aa (aa Int)) (x4:aa Int) (x14:aa Sd) (i op a b q:Int) (ok:Bool) (es:aa Ed):Nk:=
 if op=4 then (if q=3 then Mm x0 x1 x2 x3 x4 x14 i op a b es else E_ x0 x1 x2 x3 x4 x14 i op a b 1)
 else E_ x0 x1 x2 x3 x4 x14 i op a b (if ok then 1 else 2)
noncomputable def Vv (x0:Int) (x1:aa Int) (x2:aa Ed) (x3:aa (aa Int)) (x4:aa Int) (x5 x6 x7 x8 x9 x10 x11:Int) (x12:aa Ed) (x13:Int) (x14:aa Sd) (sh:Int) (y:An):Nk:=
 if Fb x0 x1 x2 x3 x4 x5 x6 x7 x8 x9 x10 x11 x12 x13 x14 sh y=true then QT x0 x1 x2 (x3.set (sh-1).toNat y.2.2.2) (x4.set (sh-1).toNat y.1) x14 x5 x6 x7 x8 x11 y.2.1 y.2.2.1 else (x0,x1,x2,x3,x4,x5,x6,x7,x8,x9,x10,x11,x12,x13,x14,0)
theorem acC {x0:Int} {x1:aa Int} {x2:aa Ed} {x3:aa (aa Int)} {x4:aa Int} {x5 x6 x7 x8 x9 x10 x11:Int} {x12:aa Ed} {x13:Int} {x14:aa Sd} {sh:Int} {y:An} (h:Fb x0 x1 x2 x3 x4 x5 x6 x7 x8 x9 x10 x11 x12 x13 x14 sh y=true) :
  HdF x0 x1 x2 x3 x4 x14/\pW x0 y=true/\sh=x9/\(1<=sh/\sh<=x3.length)/\wm x0 x3.length x6 x7 x8=true:=by
 unfold Fb at h;simp only [aU,decide_eq_true_eq,sK,decide_eq_false_iff_not] at h;obtain ⟨h1,h2,h3,h4,h5⟩:=h;obtain ⟨hF,ht⟩:=aBu h1;unfold su at ht;rw [iT] at ht;rcases ht with ht|ht
 ·unfold tB at ht;simp only [aU,decide_eq_true_eq] at ht;exact absurd ht.2.1 h3
 ·simp only [aU,aV] at ht;exact ⟨hF,h2,h4,by rw [h4];exact ht.2.1,ht.1.2.2⟩
theorem Vw {l:aa Int} {i:Nat} {v:Int} (h:∀j,j<l.length->0<=l.getD j 0/\l.getD j 0<=1000000) (hv:0<=v/\v<=1000000):∀j,j<(l.set i v).length->0<=(l.set i v).getD j 0/\(l.set i v).getD j 0<=1000000:=by
 intro j hj;rw [lL] at hj;by_cases wC:i=j
 ·subst wC;rw [gD (Xz hj)];exact hv
 ·rw [gD ((List.getElem?_set_ne wC).trans (getD_at hj))];exact h j hj
section
variable {x0:Int} {x1:aa Int} {x2:aa Ed} {x3:aa (aa Int)} {x4:aa Int} {x14:aa Sd} (i op a b:Int) (es:aa Ed)
theorem ajA (h2:x2.length<=66) (he:es.length<=66) (h1:x1.length<=12) (nD:x14.length<=80) :
  ∃(w c:_) (t1 t2 t3 t4 t5 t6 t7:Int) (t8:aa Ed) (t9:Int) (s:aa Sd) (m:Int),Mm x0 x1 x2 x3 x4 x14 i op a b es=(x0,w,c,x3,x4,t1,t2,t3,t4,t5,t6,t7,t8,t9,s,m)/\w.length<=12/\c.length<=132/\t8.length<=132/\s.length<=81:=by
 have hCl:=Xf x2 es;have hIl:(mU x1 x2 es a b).length<=(qI x2 es).length:=qM _ _;have hd:=af1 (mU x1 x2 es a b) (qI x2 es);unfold Mm;split
 ·split
  ·exact ⟨_,_,_,_,_,_,_,_,_,_,_,_,_,rfl,by rw [lL];exact h1,by omega,by simp,by simp;omega⟩
  ·exact ⟨_,_,_,_,_,_,_,_,_,_,_,_,_,rfl,by rw [lL];exact h1,by omega,by omega,by omega⟩
 ·exact ⟨_,_,_,_,_,_,_,_,_,_,_,_,_,rfl,h1,by omega,by simp,by simp;omega⟩
theorem azI (q:Int) (ok:Bool) (h2:x2.length<=66) (he:es.length<=66) (h1:x1.length<=12) (nD:x14.length<=80) :
  ∃(w c:_) (t1 t2 t3 t4 t5 t6 t7:Int) (t8:aa Ed) (t9:Int) (s:aa Sd) (m:Int),QT x0 x1 x2 x3 x4 x14 i op a b q ok es=(x0,w,c,x3,x4,t1,t2,t3,t4,t5,t6,t7,t8,t9,s,m)/\w.length<=12/\c.length<=132/\t8.length<=132/\s.length<=81:=by
 have say:∀v,∃(w c:_) (t1 t2 t3 t4 t5 t6 t7:Int) (t8:aa Ed) (t9:Int) (s:aa Sd) (m:Int),E_ x0 x1 x2 x3 x4 x14 i op a b v=(x0,w,c,x3,x4,t1,t2,t3,t4,t5,t6,t7,t8,t9,s,m)/\w.length<=12/\c.length<=132/\t8.length<=132/\s.length<=81:=fun v=>⟨_,_,_,_,_,_,_,_,_,_,_,_,_,rfl,h1,by omega,by simp,by simp;omega⟩
 unfold QT;split
 ·split
  ·exact ajA i op a b es h2 he h1 nD
  ·exact say _
 ·exact say _
end
section
variable (x0:Int) (x1:aa Int) (x2:aa Ed) (x3:aa (aa Int)) (x4:aa Int) (x5 x6 x7 x8 x9 x10 x11:Int) (x12:aa Ed) (x13:Int) (x14:aa Sd) (sh:Int) (y0:Int) (y1:Bool) (y2:aa Ed) (y3:aa Int) (h1:x1.length<=1048576) (h2:x2.length<=1048576) (h3:x3.length<=1048576/\∀y,y∈x3->y.length<=1048576) (h4:x4.length<=1048576) (dO:x12.length<=1048576) (nD:x14.length<=1048576) (hy2:y2.length<=1048576) (hy3:y3.length<=1048576)
include h1 h2 h3 h4 dO nD hy2 hy3
theorem azJ:De ((x0,x1,x2,x3,x4,x5,x6,x7,x8,x9,x10,x11,x12,x13,x14),sh,(y0,y1,y2,y3))=some (Vv x0 x1 x2 x3 x4 x5 x6 x7 x8 x9 x10 x11 x12 x13 x14 sh (y0,y1,y2,y3),()):=by
 have hm:maxLen=9223372036854775807:=by decide
 show acs BIG _=_;rw [azv,Vs x0 x1 x2 x3 x4 x5 x6 x7 x8 x9 x10 x11 x12 x13 x14 h1 h2 h3 h4 dO nD,af];dsimp only;rw [QP x0 x1 x2 x3 x4 x5 x6 x7 x8 x9 x10 x11 x12 x13 x14 h1 h2 h3 dO nD,Vo x0 (y0,y1,y2,y3) hy2 hy3,anQ];have hx:(Option.bind (some (uB x0 x1 x2 x3 x4 x14 (su x0 x3.length x4 x14 x5 x6 x7 x8 x9 (x10,x11,x12,x13)),())) fun r1:Bool × Unit=>
   bif !r1.1 then some true else Option.bind (some (pW x0 (y0,y1,y2,y3),())) fun r2:Bool × Unit=>bif !r2.1 then some true else Option.bind (some (!decide (x9=0),())) fun r3:Bool × Unit=>bif !r3.1 then some true else bif !decide (sh=x9) then some true else some (!decide (y0=x10)))=some (!Fb x0 x1 x2 x3 x4 x5 x6 x7 x8 x9 x10 x11 x12 x13 x14 sh (y0,y1,y2,y3)):=by
  unfold Fb;simp only [af];cases uB x0 x1 x2 x3 x4 x14 (su x0 x3.length x4 x14 x5 x6 x7 x8 x9 (x10,x11,x12,x13))<;>cases pW x0 (y0,y1,y2,y3)<;>cases decide (x9=0)<;>cases decide (sh=x9)<;>cases decide (y0=x10)<;>rfl
 refine (congrArg (fun o=>Option.bind o _) hx).trans ?_;unfold Vv;cases aT:Fb x0 x1 x2 x3 x4 x5 x6 x7 x8 x9 x10 x11 x12 x13 x14 sh (y0,y1,y2,y3) with
 | false=>rfl
 | true=>
  obtain ⟨hF,hA,hs,om,hr⟩:=acC aT;obtain ⟨r1,r2,r3,r4⟩:=agh hr;obtain ⟨a1,a2,a3,a4,a5,a6,a7⟩:=acy hA;have jX:=jV hF.cuts;have Ce:=jV a5;have tX:=hF.said;have hk:=hF.k;have awU:=hF.nums;have hn4:=Vw (l:=x4) (i:=(sh-1).toNat) (fun j hj=>by have:=(hF.o3 j (by omega)).2;omega) (show 0<=y0/\y0<=1000000 by simp only at a3 a4;omega);have e4:x4[(sh-1).toNat]?=some (x4.getD (sh-1).toNat 0):=getD_at (by omega);have e3:=aR (l:=x3) (i:=(sh-1).toNat) (by omega);simp only [bB,af,ax,if_true];rw [wr (n:=sh-1) (by omega) (by omega),bV (by omega) (by omega),e4,af,Ap y3 hy3,af,bV (by omega) (by omega),e3,af];unfold QT;by_cases h6:x6=4
  ·subst h6;simp only [decide_true,bB,ax,if_true];by_cases GY:x11=3
   ·rw [ak GY,ai,if_pos GY,Xg _ _ _ _ _ _ _ _ _ _ _ hF.n hF.own ⟨(lc hF.cuts).2.1,by omega⟩ (by rw [lL];omega) (by rw [lL,lL];omega) (by omega) ⟨(lc a5).2.1,by omega⟩ r2 (by rw [lL];exact r3 rfl) hn4];rfl
   ·rw [az GY,ax,if_neg GY,jh _ _ _ _ _ _ _ _ _ _ _ _ _ _ (by omega)];rfl
  ·simp only [az h6,gW,ai,if_neg h6];rw [ajo,af,jh _ _ _ _ _ _ _ _ _ _ _ _ _ _ (by omega)];rfl
theorem azK:zm ((x0,x1,x2,x3,x4,x5,x6,x7,x8,x9,x10,x11,x12,x13,x14),sh,(y0,y1,y2,y3))=some (Vv x0 x1 x2 x3 x4 x5 x6 x7 x8 x9 x10 x11 x12 x13 x14 sh (y0,y1,y2,y3),()):=by
 have hm:maxLen=9223372036854775807:=by decide
 show acg BIG _=_;rw [azn,CW x0 x1 x2 x3 x4 x5 x6 x7 x8 x9 x10 x11 x12 x13 x14 h1 h2 h3 h4 dO nD,af];dsimp only;rw [QQ x0 x1 x2 x3 x4 x5 x6 x7 x8 x9 x10 x11 x12 x13 x14 h1 h2 h3 dO nD,Vp x0 (y0,y1,y2,y3) hy2 hy3,acx];have hx:(Option.bind (some (uB x0 x1 x2 x3 x4 x14 (su x0 x3.length x4 x14 x5 x6 x7 x8 x9 (x10,x11,x12,x13)),())) fun r1:Bool × Unit=>
   bif !r1.1 then some true else Option.bind (some (pW x0 (y0,y1,y2,y3),())) fun r2:Bool × Unit=>bif !r2.1 then some true else Option.bind (some (!decide (x9=0),())) fun r3:Bool × Unit=>bif !r3.1 then some true else bif !decide (sh=x9) then some true else some (!decide (y0=x10)))=some (!Fb x0 x1 x2 x3 x4 x5 x6 x7 x8 x9 x10 x11 x12 x13 x14 sh (y0,y1,y2,y3)):=by
  unfold Fb;simp only [af];cases uB x0 x1 x2 x3 x4 x14 (su x0 x3.length x4 x14 x5 x6 x7 x8 x9 (x10,x11,x12,x13))<;>cases pW x0 (y0,y1,y2,y3)<;>cases decide (x9=0)<;>cases decide (sh=x9)<;>cases decide (y0=x10)<;>rfl
 refine (congrArg (fun o=>Option.bind o _) hx).trans ?_;unfold Vv;cases aT:Fb x0 x1 x2 x3 x4 x5 x6 x7 x8 x9 x10 x11 x12 x13 x14 sh (y0,y1,y2,y3) with
 | false=>rfl
 | true=>
  obtain ⟨hF,hA,hs,om,hr⟩:=acC aT;obtain ⟨r1,r2,r3,r4⟩:=agh hr;obtain ⟨a1,a2,a3,a4,a5,a6,a7⟩:=acy hA;have jX:=jV hF.cuts;have Ce:=jV a5;have tX:=hF.said;have hk:=hF.k;have awU:=hF.nums;have hnn:=hF.n;have FF:=hF.own;have hn4:=Vw (l:=x4) (i:=(sh-1).toNat) (fun j hj=>by have:=(hF.o3 j (by omega)).2;omega) (show 0<=y0/\y0<=1000000 by simp only at a3 a4;omega);have e4:x4[(sh-1).toNat]?=some (x4.getD (sh-1).toNat 0):=getD_at (by omega);have e3:=aR (l:=x3) (i:=(sh-1).toNat) (by omega);have h3':(x3.set (sh-1).toNat y3).length<=1048576/\∀y,y∈x3.set (sh-1).toNat y3->y.length<=1048576:=⟨by rw [lL];omega,fun y hy=>by
   rcases List.mem_or_eq_of_mem_set hy with hy|rfl
   ·exact h3.2 y hy
   ·exact hy3⟩
  simp only [bB,af,ax,if_true];rw [wr (n:=sh-1) (by omega) (by omega),bV (by omega) (by omega),e4,af,ak (by simp;omega),ai,bV (by omega) (by omega),e3,af];simp only [gQ];unfold QT;by_cases h6:x6=4
  ·subst h6;simp only [decide_true,bB,ai,ax,if_true,af];by_cases GY:x11=3
   ·simp only [ak GY,ai,if_pos GY];rw [alV _ _ _ _ _ _ _ _ _ _ _ _ _ _ _ _ _ _ _ _ hF.n hF.own ⟨(lc hF.cuts).2.1,by omega⟩ (by rw [lL];omega) (by rw [lL,lL];omega) (by omega) ⟨(lc a5).2.1,by omega⟩ r2 (by rw [lL];exact r3 rfl) hn4,af];obtain ⟨w,c,t1,t2,t3,t4,t5,t6,t7,t8,t9,s,m,e,l1,l2,l3,l4⟩:=ajA (x0:=x0) (x1:=x1) (x2:=x2) (x3:=x3.set (sh-1).toNat y3) (x4:=x4.set (sh-1).toNat y0) (x14:=x14) x5 4 x7 x8 y2 (by omega) (by show y2.length<=66;exact Ce) (by omega) (by omega);rw [e];simp only [GI];rw [CW _ _ _ _ _ _ _ _ _ _ _ _ _ _ _ (by omega) (by omega) h3' (by rw [lL];omega) (by omega) (by omega),af]
   ·simp only [az GY,ax,if_neg GY];rw [mh _ _ _ _ _ _ _ _ _ _ _ _ _ _ (by omega)];rfl
  ·simp only [az h6,gW,ai,ax,if_neg h6,af];cases y1 with
   | true=>
    simp only [bB,ax,af,if_true];rw [mh _ _ _ _ _ _ _ _ _ _ _ _ _ _ (by omega)];rfl
   | false=>
    simp only [gW,ai,af,iK,if_false];rw [mh _ _ _ _ _ _ _ _ _ _ _ _ _ _ (by omega)];rfl
end
inductive FT where
 | nil
 | nd (v:Int) (c s:FT)
def FT.vs:FT->aa Int
 | .nil=>[]
 | .nd v c s=>v::(c.vs++s.vs)
def FT.sg:FT->Int->aa Int
 | .nil,_=>[]
 | .nd v c s,r=>v::(c.sg v++r::s.sg r)
def FT.app:FT->FT->FT
 | .nil,g=>g
 | .nd v c s,g=>.nd v c (s.app g)
def tr (v:Int) (c:FT):aa Int:=v::c.sg v
theorem aul (r:Int) (g:FT):∀f:FT,(f.app g).sg r=f.sg r++g.sg r
 | .nil=>rfl
 | .nd v c s=>by
  have:=aul r g s;simp [FT.app,FT.sg,this]
theorem aum (g:FT):∀f:FT,(f.app g).vs=f.vs++g.vs
 | .nil=>rfl
 | .nd v c s=>by
  have:=aum g s;simp [FT.app,FT.vs,this]
theorem aa6:∀(f:FT) (r:Int),(f.sg r).length=2*f.vs.length
 | .nil,_=>rfl
 | .nd v c s,r=>by
  have:=aa6 c v;have:=aa6 s r;simp only [FT.sg,FT.vs,bF,dP];omega
theorem xS (v:Int) (c:FT):(tr v c).length=2*c.vs.length+1:=by
 simp [tr,aa6]
theorem ajB:∀(f:FT) (r x:Int),x∈f.sg r↔x∈f.vs\/(x=r/\f.vs≠[])
 | .nil,r,x=>by simp [FT.sg,FT.vs]
 | .nd v c s,r,x=>by
  have h1:=ajB c v x;have h2:=ajB s r x;simp only [FT.sg,FT.vs,aY,bG,h1,h2];constructor
  ·rintro (h | (h|⟨h,_⟩)|h|h|⟨h,_⟩)
   ·exact .inl (.inl h)
   ·exact .inl (.inr (.inl h))
   ·exact .inl (.inl h)
   ·exact .inr ⟨h,by simp⟩
   ·exact .inl (.inr (.inr h))
   ·exact .inr ⟨h,by simp⟩
  ·rintro ((h|h|h)|⟨h,_⟩)
   ·exact .inl h
   ·exact .inr (.inl (.inl h))
   ·exact .inr (.inr (.inr (.inl h)))
   ·exact .inr (.inr (.inl h))
theorem xU (v:Int) (c:FT) (x:Int):x∈tr v c↔x∈v::c.vs:=by
 simp only [tr,aY,ajB];constructor
 ·rintro (h|h|⟨h,_⟩)
  ·exact .inl h
  ·exact .inr h
  ·exact .inl h
 ·rintro (h|h)
  ·exact .inl h
  ·exact .inr (.inl h)
def uR (s:aa Int × aa Int) (v:Int):ah (aa Int × aa Int):=
 if 1<s.1.length/\s.1.getD (s.1.length-2) 0=v then some (s.1.take (s.1.length-1),s.2)
 else if (0<=v/\v<=11)/\v∉s.2 then some (s.1++[v],s.2++[v]) else none
theorem aa7 {S α:Type} (st:S->α->ah S):∀(a b:aa α) (s:S),fM st s (a++b)=(fM st s a).bind fun s'=>fM st s' b
 | [],b,s=>rfl
 | x::a,b,s=>by
  rw [mZ,fM,fM];cases st s x with
  | none=>rfl
  | some s'=>simp only [af,aa7 st a b]
theorem ajC:∀(f:FT) (r:Int) (P M:aa Int),(∀x,x∈P->x∈M)->(∀x,x∈f.vs->x∉M)->f.vs.Nodup->(∀x,x∈f.vs->0<=x/\x<=11)->r∈M->fM uR (P++[r],M) (f.sg r)=some (P++[r],M++f.vs)
 | .nil,r,P,M,_,_,_,_,_=>by simp [FT.sg,FT.vs,fM]
 | .nd v c s,r,P,M,hP,hd,hn,hr,hrM=>by
  simp only [FT.vs] at hd hn hr ⊢
  rw [nJ,bG,not_or,Rq] at hn
  obtain ⟨⟨n1,n2⟩,n3,n4,n5⟩:=hn
  have hv:=hd v (dW ..)
  have s1:uR (P++[r],M) v=some (P++[r]++[v],M++[v]):=by
   unfold uR;rw [if_neg,if_pos ⟨hr v (dW ..),hv⟩];rintro ⟨g1,g2⟩;simp only [dP,bF,bQ] at g1 g2;have bR:P.length+(0+1)-2<P.length:=by omega
   have:(P++[r])[P.length+(0+1)-2]?=some P[P.length+(0+1)-2]:=by
    rw [rE bR,aR bR]
   rw [gD this] at g2;exact hv (hP v (by rw [<-g2];exact nH _))
  have s2:=ajC c v (P++[r]) (M++[v]) (fun x hx=>by
   rw [bG,cK] at hx ⊢
   rcases hx with hx|rfl
   ·exact .inl (hP x hx)
   ·exact .inl hrM) (fun x hx hm=>by
   rw [bG,cK] at hm
   rcases hm with hm|rfl
   ·exact hd x (dQ _ (jl _ hx)) hm
   ·exact n1 hx) n3 (fun x hx=>hr x (dQ _ (jl _ hx))) (by simp)
  have s3:uR (P++[r]++[v],M++[v]++c.vs) r=some (P++[r],M++[v]++c.vs):=by
   unfold uR
   rw [if_pos]
   ·have:(P++[r]++[v]).take ((P++[r]++[v]).length-1)=P++[r]:=by
     rw [show (P++[r]++[v]).length-1=(P++[r]).length from by simp,List.take_left]
    simp only
    rw [this]
   ·simp only [dP,bF,bQ]
    refine ⟨by omega,?_⟩
    have:(P++[r]++[v])[P.length+(0+1)+(0+1)-2]?=some r:=by
     rw [rE (by simp),show P.length+(0+1)+(0+1)-2=P.length from by omega]
     simp
    exact gD this
  have s4:=ajC s r P (M++[v]++c.vs) (fun x hx=>by simp [hP x hx]) (fun x hx hm=>by
   rw [bG,bG,cK] at hm
   rcases hm with (hm|rfl)|hm
   ·exact hd x (dQ _ (jD _ hx)) hm
   ·exact n2 hx
   ·exact n5 x hm x hx rfl) n4 (fun x hx=>hr x (dQ _ (jD _ hx))) (by simp [hrM])
  simp only [FT.sg]
  rw [fM,s1,af,aa7,s2,af,fM,s3,af,s4]
  simp
structure TrOk (v:Int) (c:FT):Prop where
 nd:(v::c.vs).Nodup
 rg:∀x,x∈v::c.vs->0<=x/\x<=11
theorem vK:∀(n:Nat) (l:aa Int),l.Nodup->(∀x,x∈l->0<=x/\x<n)->l.length<=n
 | 0,l,_,h=>by
  cases l with
  | nil=>simp
  | cons x l=>have:=h x (dW ..);omega
 | n+1,l,hn,h=>by
  have h1:=vK n (l.erase (n:Int)) (hn.erase _) (fun x hx=>by
   have h2:=(hn.mem_erase_iff).1 hx
   have:=h x h2.2
   have:=h2.1
   omega)
  have h2:=List.length_erase (a:=(n:Int)) (l:=l);split at h2
  ·rw [h2] at h1;omega
  ·rw [h2] at h1;omega
theorem TrOk.len {v:Int} {c:FT} (h:TrOk v c):c.vs.length<=11:=by
 have:=vK 12 (v::c.vs) h.nd (fun x hx=>by have:=h.rg x hx;omega);simp only [bF] at this;omega
theorem TrOk.run {v:Int} {c:FT} (h:TrOk v c):fM uR ([v],[v]) (c.sg v)=some ([v],v::c.vs):=by
 have hn:=h.nd;rw [nJ] at hn;have:=ajC c v [] [v] (by simp) (fun x hx hm=>by rw [cK] at hm;subst hm;exact hn.1 hx) hn.2 (fun x hx=>h.rg x (dQ _ hx)) (by simp);simpa using this
theorem xV {α B:Type} (a:aa α) (hl:a.length<18446744073709551616) (p:α->Bool) (b:B) {F:(Int->ah (Unit ⊕ B))->Int->ah (Unit ⊕ B)}
  (hF:∀self (i:Nat) y,a[i]?=some y->F self (i:Int)=if p y then some (.inr b) else self ((i+1:Nat):Int))
  (hE:∀self,F self (a.length:Int)=some (.inl ())):aJ BIG F 0=some (if a.any p=true then .inr b else .inl ()):=by
 refine ky (fun (x:Int)=>∃i:Nat,x=(i:Int)/\i<=a.length/\∀j (hj:j<a.length),j<i->p a[j]=false) (fun x=>a.length-x.toNat) (fun _=>_) (fun self x ⟨i,h1,h2,h3⟩ hs => ?_) (n:=BIG) (x:=0) (by simp;exact hl) ⟨0,rfl,by simp,fun j _ hj=>by omega⟩;subst h1;by_cases hi:i<a.length
 ·rw [hF self i a[i] (aR hi)];cases hp:p a[i] with
  | true=>rw [if_pos rfl,if_pos (nI.2 ⟨a[i],nH hi,hp⟩)]
  | false=>
   rw [if_neg (by simp)];refine hs _ ⟨i+1,rfl,hi,fun j hj ik => ?_⟩ (by simp;omega);by_cases wC:j=i
   ·subst wC;exact hp
   ·exact h3 j hj (by omega)
 ·have:i=a.length:=by omega
  subst this;rw [hE,if_neg];intro h;obtain ⟨y,hy,hp⟩:=nI.1 h;obtain ⟨j,hj,rfl⟩:=zW hy;rw [h3 j hj hj] at hp;cases hp
end Go.Fw
