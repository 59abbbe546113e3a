/- What the given functions come to. No conditions. -/
import Derived.Test.YtbdciplhpomakaaGreatX3
import Derived.IntWalk
set_option linter.unusedVariables false
set_option linter.unusedSimpArgs false
set_option linter.unusedSectionVars false
namespace Go.Fw
theorem qa {X B:Type} {F:(X->Option B)->X->Option B} (I:X->Prop) (μ:X->Nat) (Q:X->B->Prop)
  (h:∀self x,I x->(∀y,I y->μ y<μ x->∃b,self y=some b/\Q y b)->∃b,F self x=some b/\Q x b):∀{n:Nat} {x:X},μ x<n->I x->∃b,aI n F x=some b/\Q x b
 | 0,_,hn,_=>absurd hn (Nat.not_lt_zero _)
 | n+1,x,hn,hi=>h (it F n) x hi fun _ hy hm=>qa I μ Q h (n:=n) (by omega) hy
theorem ig {X B:Type} {F:(X->Option B)->X->Option B} (I:X->Prop) (μ:X->Nat) (R:X->B)
  (h:∀self x,I x->(∀y,I y->μ y<μ x->self y=some (R y))->F self x=some (R x)) {n:Nat} {x:X} (hn:μ x<n) (hi:I x):aI n F x=some (R x):=by
 obtain ⟨b,h1,h2⟩:=qa (F:=F) I μ (fun x b=>b=R x) (fun self x hx hs=>⟨_,h self x hx fun y hy hm=>by obtain ⟨b,h1,h2⟩:=hs y hy hm;rw [h1,h2],rfl⟩) hn hi;rw [h1,h2]
theorem wr {n:Int} (h : -9223372036854775808<=n) (h':n<=9223372036854775807):IntKind.wrap .i64 n=n:=by
 rw [IntKind.wrap_i64];omega
theorem bE {i:Nat} (h:i<maxLen):IntKind.wrap .i64 ((i:Int)+1)=((i+1:Nat):Int):=by
 have:maxLen=9223372036854775807:=by decide
 rw [wr (by omega) (by omega)];rfl
theorem bn {B:Type} {len:Nat} {i:Int} {k:Nat->Option B} (h:0<=i) (h':i<len):bnd len i k=k i.toNat:=by
 unfold bnd;rw [if_pos ⟨h,by omega⟩]
theorem aB {B:Type} {len:Nat} {i:Nat} {k:Nat->Option B} (h':i<len):bnd len (i:Int) k=k i:=by
 rw [bn (Int.natCast_nonneg i) (by omega)];simp
theorem iJ {α B:Type} (a:List α) (hl:a.length<18446744073709551616) {F:(Int->Option (Unit ⊕ B))->Int->Option (Unit ⊕ B)} (p:Nat->Bool) (b:B)
  (hF:∀self (i:Nat) y,a[i]?=some y->F self (i:Int)=if p i then self ((i+1:Nat):Int) else some (.inr b))
  (hE:∀self,F self (a.length:Int)=some (.inl ())):aI BIG F 0=some (if ∀i,i<a.length->p i=true then .inl () else .inr b):=by
 have hh:=qa (F:=F) (fun x=>∃i:Nat,x=i/\i<=a.length) (fun x=>a.length-x.toNat) (fun x r=>((∀i:Nat,x<=(i:Int)->i<a.length->p i=true)/\r = .inl ())\/((∃i:Nat,i<a.length/\p i=false)/\r = .inr b)) (fun self x ⟨i,h1,h2⟩ hs => ?_) (n:=BIG) (x:=0) (by simp;exact hl) ⟨0,rfl,by simp⟩
 ·obtain ⟨r,hr,hq⟩:=hh;rw [hr];congr 1;rcases hq with ⟨h1,rfl⟩|⟨⟨i,h1,h2⟩,rfl⟩
  ·rw [if_pos fun i hi=>h1 i (by omega) hi]
  ·rw [if_neg];intro h;rw [h i h1] at h2;cases h2
 ·subst h1;by_cases hi:i<a.length
  ·rw [hF self i a[i] (aO hi)];cases hp:p i with
   | true=>
    rw [if_pos rfl];obtain ⟨r,hr,hq⟩:=hs _ ⟨i+1,rfl,hi⟩ (by simp;omega);refine ⟨r,hr,?_⟩;rcases hq with ⟨h1,rfl⟩|h1
    ·refine .inl ⟨fun k hk hk' => ?_,rfl⟩;by_cases h:k=i
     ·subst h;exact hp
     ·exact h1 k (by omega) hk'
    ·exact .inr h1
   | false=>exact ⟨_,rfl,.inr ⟨⟨i,hi,hp⟩,rfl⟩⟩
  ·have:i=a.length:=by omega
   subst this;exact ⟨_,hE self,.inl ⟨fun k hk hk'=>by omega,rfl⟩⟩
theorem Yp:maxLen<18446744073709551616:=by decide
theorem aka {α B:Type} [DecidableEq α] (a b:List α) (hl:a.length<=maxLen) (hab:a.length=b.length) {F:(Int->Option (Unit ⊕ B))->Int->Option (Unit ⊕ B)} (r:B)
  (hF:∀self (i:Nat) x y,a[i]?=some x->b[i]?=some y->F self (i:Int)=if x=y then self ((i+1:Nat):Int) else some (.inr r))
  (hE:∀self,F self (a.length:Int)=some (.inl ())):aI BIG F 0=some (if a=b then .inl () else .inr r):=by
 rw [iJ a (Nat.lt_of_le_of_lt hl Yp) (fun i=>decide (a[i]?=b[i]?)) r (fun self i y hy => ?_) hE]
 ·congr 1;by_cases h:a=b
  ·subst h;simp
  ·rw [if_neg h,if_neg];intro h';apply h;apply List.ext_getElem? fun i => ?_
   by_cases hi:i<a.length
   ·simpa using h' i hi
   ·rw [List.getElem?_eq_none (by omega),List.getElem?_eq_none (by omega)]
 ·have hi:=(aS hy).1;have hb:b[i]?=some (b[i]'(by omega)):=aO (by omega);rw [hF self i y _ hy hb,hy,hb];simp
theorem gQ {α S B:Type} (a:List α) (hl:a.length<18446744073709551616) {F:(S × Int->Option B)->S × Int->Option B} (I:Nat->S->Prop) (st:S->α->S) (R:S->B) {s0:S} (h0:I 0 s0)
  (hI:∀i s y,a[i]?=some y->I i s->I (i+1) (st s y)) (hF:∀self s (i:Nat) y,a[i]?=some y->I i s->F self (s,(i:Int))=self (st s y,((i+1:Nat):Int)))
  (hE:∀self s,I a.length s->F self (s,(a.length:Int))=some (R s)):aI BIG F (s0,0)=some (R (a.foldl st s0)):=by
 have:=ig (F:=F) (fun x=>∃i:Nat,x.2=i/\i<=a.length/\I i x.1) (fun x=>a.length-x.2.toNat) (fun x=>R ((a.drop x.2.toNat).foldl st x.1)) (fun self x ⟨i,h1,h2,h3⟩ hs => ?_) (n:=BIG) (x:=(s0,0)) (by simp;exact hl) ⟨0,rfl,by simp,h0⟩
 ·simpa using this
 ·obtain ⟨s,j⟩:=x;simp only at h1 h2 h3;subst h1;by_cases hi:i<a.length
  ·have hy:=aO hi;rw [hF self s i a[i] hy h3,hs _ ⟨i+1,rfl,hi,hI _ _ _ hy h3⟩ (by simp;omega)];simp only [fH];rw [List.drop_eq_getElem_cons hi,List.foldl_cons]
  ·have:i=a.length:=by omega
   subst this;rw [hE self s h3];simp
theorem YU {α:Type} {a t:List α} {i:Nat} {z:α} (ht:t.length=a.length) (hi:i<a.length) (hz:t[i]?=some z):(t.take i++a.drop i).set i z=t.take (i+1)++a.drop (i+1):=by
 have hi':i<t.length:=by omega
 rw [aO hi',aK] at hz;subst hz;rw [List.set_append_right _ _ (by simp;omega),List.drop_eq_getElem_cons hi,show i-(t.take i).length=0 from by simp;omega,List.set_cons_zero,List.take_succ_eq_append_getElem hi',List.append_assoc];rfl
inductive Con (E:List (Int × Int)):Int->Int->Prop
 | refl (v:Int):Con E v v
 | fwd {u v w:Int}:Con E u v->(v,w)∈E->Con E u w
 | bwd {u v w:Int}:Con E u v->(w,v)∈E->Con E u w
theorem Con.trans {E:List (Int × Int)} {u v w:Int} (h:Con E u v) (h':Con E v w):Con E u w:=by
 induction h' with
 | refl=>exact h
 | fwd _ he ih=>exact .fwd ih he
 | bwd _ he ih=>exact .bwd ih he
theorem Con.symm {E:List (Int × Int)} {u v:Int} (h:Con E u v):Con E v u:=by
 induction h with
 | refl=>exact .refl _
 | fwd _ he ih=>exact Con.trans (.bwd (.refl _) he) ih
 | bwd _ he ih=>exact Con.trans (.fwd (.refl _) he) ih
theorem Con.mono {E E':List (Int × Int)} (hE:∀e,e∈E->e∈E') {u v:Int} (h:Con E u v):Con E' u v:=by
 induction h with
 | refl=>exact .refl _
 | fwd _ he ih=>exact .fwd ih (hE _ he)
 | bwd _ he ih=>exact .bwd ih (hE _ he)
theorem Con.of {E:List (Int × Int)} {u v:Int} (h:(u,v)∈E):Con E u v:=.fwd (.refl _) h
theorem Con.sub {E E':List (Int × Int)} (hE:∀e,e∈E->Con E' e.1 e.2) {u v:Int} (h:Con E u v):Con E' u v:=by
 induction h with
 | refl=>exact .refl _
 | fwd _ he ih=>exact ih.trans (hE _ he)
 | bwd _ he ih=>exact ih.trans (hE _ he).symm
theorem Con.nil {u v:Int} (h:Con [] u v):u=v:=by
 induction h with
 | refl=>rfl
 | fwd _ he _=>cases he
 | bwd _ he _=>cases he
theorem Con.snoc {E:List (Int × Int)} {a b u v:Int}:Con (E++[(a,b)]) u v↔Con E u v\/(Con E u a/\Con E b v)\/(Con E u b/\Con E a v):=by
 constructor
 ·intro h;induction h with
  | refl=>exact .inl (.refl _)
  | fwd _ he ih=>
   rcases List.mem_append.1 he with h1|h1
   ·rcases ih with h|⟨h,h'⟩|⟨h,h'⟩
    ·exact .inl (.fwd h h1)
    ·exact .inr (.inl ⟨h,.fwd h' h1⟩)
    ·exact .inr (.inr ⟨h,.fwd h' h1⟩)
   ·cases List.mem_singleton.1 h1;rcases ih with h|⟨h,h'⟩|⟨h,h'⟩
    ·exact .inr (.inl ⟨h,.refl _⟩)
    ·exact .inr (.inl ⟨h,.refl _⟩)
    ·exact .inl h
  | bwd _ he ih=>
   rcases List.mem_append.1 he with h1|h1
   ·rcases ih with h|⟨h,h'⟩|⟨h,h'⟩
    ·exact .inl (.bwd h h1)
    ·exact .inr (.inl ⟨h,.bwd h' h1⟩)
    ·exact .inr (.inr ⟨h,.bwd h' h1⟩)
   ·cases List.mem_singleton.1 h1;rcases ih with h|⟨h,h'⟩|⟨h,h'⟩
    ·exact .inr (.inr ⟨h,.refl _⟩)
    ·exact .inl h
    ·exact .inr (.inr ⟨h,.refl _⟩)
 ·have hm:∀{x y:Int},Con E x y->Con (E++[(a,b)]) x y:=fun h=>h.mono fun e he=>List.mem_append_left _ he
  have hab:Con (E++[(a,b)]) a b:=.of (List.mem_append_right _ (List.mem_singleton.2 rfl));rintro (h|⟨h,h'⟩|⟨h,h'⟩)
  ·exact hm h
  ·exact (hm h).trans (hab.trans (hm h'))
  ·exact (hm h).trans (hab.symm.trans (hm h'))
def kz (n:Nat) (E:List (Int × Int)):Prop:=∀e,e∈E->0<=e.1/\e.1<n/\0<=e.2/\e.2<n
theorem Con.range {n:Nat} {E:List (Int × Int)} (hE:kz n E) {u v:Int} (h:Con E u v) (hu:0<=u/\u<n):0<=v/\v<n:=by
 induction h with
 | refl=>exact hu
 | fwd _ he _=>exact ⟨(hE _ he).2.2.1,(hE _ he).2.2.2⟩
 | bwd _ he _=>exact ⟨(hE _ he).1,(hE _ he).2.1⟩
def Lab (n:Nat) (E:List (Int × Int)) (l:List Int):Prop:=
 l.length=n/\∀(v:Nat) (x:Int),l[v]?=some x->Con E v x/\0<=x/\∀u:Int,0<=u->Con E v u->x<=u
theorem Lab.le {n:Nat} {E:List (Int × Int)} {l:List Int} (h:Lab n E l) {v:Nat} {x:Int} (hx:l[v]?=some x):x<=v:=
 (h.2 v x hx).2.2 v (Int.natCast_nonneg v) (.refl _)
theorem Lab.lt {n:Nat} {E:List (Int × Int)} {l:List Int} (h:Lab n E l) {v:Nat} {x:Int} (hx:l[v]?=some x):0<=x/\x<n:=by
 have h1:=h.le hx;have h2:=(aS hx).1;have h3:=(h.2 v x hx).2.1;have h4:=h.1;omega
theorem Lab.iff {n:Nat} {E:List (Int × Int)} {l:List Int} (h:Lab n E l) {u v:Nat} {x y:Int} (hx:l[u]?=some x) (hy:l[v]?=some y):x=y↔Con E u v:=by
 have h1:=h.2 u x hx;have h2:=h.2 v y hy;constructor
 ·intro e;subst e;exact h1.1.trans h2.1.symm
 ·intro c;have a:=h1.2.2 y h2.2.1 (c.trans h2.1);have b:=h2.2.2 x h1.2.1 (c.symm.trans h1.1);omega
theorem Lab.self {n:Nat} {E:List (Int × Int)} {l:List Int} (h:Lab n E l) {v:Nat} {x:Int} (hx:l[v]?=some x):l[x.toNat]?=some x:=by
 have h1:=h.lt hx;have hi:x.toNat<l.length:=by rw [h.1];omega
 rw [aO hi];have h2:=h.2 v x hx;have hc:Con E (x.toNat:Int) v:=by rw [Int.toNat_of_nonneg h1.1];exact h2.1.symm
 rw [(h.iff (aO hi) hx).2 hc]
theorem Lab.uniq {n:Nat} {E E':List (Int × Int)} {l l':List Int} (h:Lab n E l) (h':Lab n E' l') (hc:∀u v:Int,Con E u v↔Con E' u v):l=l':=by
 apply List.ext_getElem?;intro i;by_cases hi:i<n
 ·have e1:l[i]?=some (l[i]'(by rw [h.1];exact hi)):=aO _;have e2:l'[i]?=some (l'[i]'(by rw [h'.1];exact hi)):=aO _;rw [e1,e2];have h1:=h.2 i _ e1;have h2:=h'.2 i _ e2;have a:=h1.2.2 _ h2.2.1 ((hc _ _).2 h2.1);have b:=h2.2.2 _ h1.2.1 ((hc _ _).1 h1.1);congr 1;omega
 ·rw [List.getElem?_eq_none (by rw [h.1];omega),List.getElem?_eq_none (by rw [h'.1];omega)]
def qb (n:Nat):List Int:=(List.range n).map fun (i:Nat)=>(i:Int)
theorem RH {n v:Nat} {x:Int} (h:(qb n)[v]?=some x):v<n/\x=v:=by
 have hi:=(aS h).1;simp only [qb,List.length_map,List.length_range] at hi;simp only [qb,List.getElem?_map,List.getElem?_range hi,Option.map_some,aK] at h;exact ⟨hi,h.symm⟩
theorem qc (n:Nat):(qb n).length=n:=by simp [qb]
theorem Lab.zero (n:Nat):Lab n [] (qb n):=by
 refine ⟨qc n,fun v x h => ?_⟩;obtain ⟨_,rfl⟩:=RH h;exact ⟨.refl _,Int.natCast_nonneg v,fun u _ h=>by rw [h.nil];exact Int.le_refl _⟩
def unL (l:List Int) (x y:Int):List Int:=l.map fun z=>if z=(if y > x then y else x) then (if y<x then y else x) else z
theorem afa (l:List Int) (x y:Int):(unL l x y).length=l.length:=by simp [unL]
theorem abK (l:List Int) (x:Int):unL l x x=l:=by
 unfold unL;conv=>rhs;rw [<-List.map_id l]
 apply List.map_congr_left;intro z _;simp only [gt_iff_lt,Int.lt_irrefl,if_false,id];split<;>simp_all
theorem Lab.union {n:Nat} {E:List (Int × Int)} {l:List Int} (h:Lab n E l) {a b:Nat} {x y:Int} (hx:l[a]?=some x) (hy:l[b]?=some y):Lab n (E++[((a:Int),(b:Int))]) (unL l x y):=by
 refine ⟨by rw [afa,h.1],fun v z hz => ?_⟩;simp only [unL,List.getElem?_map,Option.map_eq_some_iff] at hz;obtain ⟨w,hw,hz⟩:=hz;have hax:=h.2 a x hx;have hby:=h.2 b y hy;have hvw:=h.2 v w hw;have ew:∀{c:Nat} {t:Int},l[c]?=some t->(w=t↔Con E v c):=fun hc=>h.iff hw hc
 have hA:=ew hx;have hB:=ew hy;have hab:Con (E++[((a:Int),(b:Int))]) a b:=.of (List.mem_append_right _ (List.mem_singleton.2 rfl));have hm:∀{s t:Int},Con E s t->Con (E++[((a:Int),(b:Int))]) s t:=fun h=>h.mono fun e he=>List.mem_append_left _ he
 by_cases hxy:x=y
 ·subst hxy;have hcab:Con E a b:=(h.iff hx hy).1 rfl;have:z=w:=by
   subst hz;simp only [gt_iff_lt,Int.lt_irrefl,if_false];split<;>simp_all
  subst this;refine ⟨hm hvw.1,hvw.2.1,fun u hu hc => ?_⟩;apply hvw.2.2 u hu;rcases Con.snoc.1 hc with h1|⟨h1,h2⟩|⟨h1,h2⟩
  ·exact h1
  ·exact h1.trans (hcab.trans h2)
  ·exact h1.trans (hcab.symm.trans h2)
 ·have key:∀u:Int,0<=u->Con (E++[((a:Int),(b:Int))]) v u->(w<=u)\/(w=x/\y<=u)\/(w=y/\x<=u):=by
   intro u hu hc;rcases Con.snoc.1 hc with h1|⟨h1,h2⟩|⟨h1,h2⟩
   ·exact .inl (hvw.2.2 u hu h1)
   ·exact .inr (.inl ⟨hA.2 h1,hby.2.2 u hu h2⟩)
   ·exact .inr (.inr ⟨hB.2 h1,hax.2.2 u hu h2⟩)
  by_cases hwx:w=x
  ·have hva:=hA.1 hwx;subst hwx;by_cases hlt:y > w
   ·rw [if_pos hlt,if_neg (by omega)] at hz;subst hz;refine ⟨hm hvw.1,hvw.2.1,fun u hu hc => ?_⟩;rcases key u hu hc with h1|h1|h1<;>omega
   ·rw [if_neg hlt,if_pos rfl,if_pos (by omega)] at hz;subst hz;refine ⟨(hm hva).trans (hab.trans (hm hby.1)),hby.2.1,fun u hu hc => ?_⟩;rcases key u hu hc with h1|h1|h1<;>omega
  ·by_cases hwy:w=y
   ·have hvb:=hB.1 hwy;subst hwy;by_cases hlt:w > x
    ·rw [if_pos hlt,if_pos rfl,if_neg (by omega)] at hz;subst hz;refine ⟨(hm hvb).trans (hab.symm.trans (hm hax.1)),hax.2.1,fun u hu hc => ?_⟩;rcases key u hu hc with h1|h1|h1<;>omega
    ·rw [if_neg hlt,if_neg hwx] at hz;subst hz;refine ⟨hm hvw.1,hvw.2.1,fun u hu hc => ?_⟩;rcases key u hu hc with h1|h1|h1<;>omega
   ·rw [if_neg (by split<;>omega)] at hz;subst hz;refine ⟨hm hvw.1,hvw.2.1,fun u hu hc => ?_⟩;rcases key u hu hc with h1|h1|h1<;>omega
def unE (l:List Int) (e:Int × Int):List Int:=unL l (l.getD e.1.toNat 0) (l.getD e.2.toNat 0)
theorem Ob (l:List Int) (e:Int × Int):(unE l e).length=l.length:=afa _ _ _
theorem Lab.unE {n:Nat} {E:List (Int × Int)} {l:List Int} (h:Lab n E l) {e:Int × Int} (he:0<=e.1/\e.1<n/\0<=e.2/\e.2<n):Lab n (E++[e]) (unE l e):=by
 have h1:e.1.toNat<l.length:=by rw [h.1];omega
 have h2:e.2.toNat<l.length:=by rw [h.1];omega
 have:=h.union (a:=e.1.toNat) (b:=e.2.toNat) (aO h1) (aO h2);rw [Int.toNat_of_nonneg he.1,Int.toNat_of_nonneg he.2.2.1] at this;unfold Go.Fw.unE;rw [bJ,bJ,aO h1,aO h2];exact this
theorem Lab.fold {n:Nat}:∀{D E:List (Int × Int)} {l:List Int},Lab n E l->kz n D->Lab n (E++D) (D.foldl Go.Fw.unE l)
 | [],E,l,h,_=>by simpa using h
 | e::D,E,l,h,hD=>by
  have:=Lab.fold (D:=D) (h.unE (hD e (List.mem_cons_self ..))) fun x hx=>hD x (List.mem_cons_of_mem _ hx)
  rw [List.foldl_cons];rwa [List.append_assoc] at this
def labs (n:Nat) (E:List (Int × Int)):List Int:=E.foldl unE (qb n)
theorem iK {n:Nat} {E:List (Int × Int)} (h:kz n E):Lab n E (labs n E):=by
 have:=(Lab.zero n).fold h;simpa [labs] using this
theorem bV (n:Nat) (E:List (Int × Int)):(labs n E).length=n:=by
 have:∀(E:List (Int × Int)) (l:List Int),(E.foldl unE l).length=l.length:=by
  intro E;induction E with
  | nil=>simp
  | cons e E ih=>intro l;rw [List.foldl_cons,ih,Ob]
 rw [labs,this,qc]
def rlE (l:List Int) (e:Int × Int):List Int:=
 let x:=l.getD e.1.toNat 0
 let y:=l.getD e.2.toNat 0
 let l:=if x<y then l.set e.2.toNat x else l
 if y<x then l.set e.1.toNat y else l
theorem afb (l:List Int) (e:Int × Int):(rlE l e).length=l.length:=by
 unfold rlE;simp only;split<;>split<;>simp
def lrnd (E:List (Int × Int)) (l:List Int):List Int:=E.foldl rlE l
theorem abL:∀(E:List (Int × Int)) (l:List Int),(lrnd E l).length=l.length
 | [],l=>rfl
 | e::E,l=>by show (lrnd E (rlE l e)).length=_;rw [abL E,afb]
section
variable {n:Nat} {E:List (Int × Int)} {L:List Int}
def Dn (n:Nat) (E:List (Int × Int)) (l:List Int):Prop:=l.length=n/\∀(v:Nat) (x:Int),l[v]?=some x->Con E v x/\0<=x
theorem Dn.ge (hL:Lab n E L) {l:List Int} (h:Dn n E l) {v:Nat} {x y:Int} (hx:l[v]?=some x) (hy:L[v]?=some y):y<=x:=
 (hL.2 v y hy).2.2 x (h.2 v x hx).2 (h.2 v x hx).1
theorem Dn.set {l:List Int} (h:Dn n E l) {v:Nat} {x:Int} (hc:Con E v x) (h0:0<=x):Dn n E (l.set v x):=by
 refine ⟨by simp [h.1],fun u y hu => ?_⟩;rw [List.getElem?_set] at hu;split at hu
 ·subst v;split at hu
  ·cases hu;exact ⟨hc,h0⟩
  ·cases hu
 ·exact h.2 u y hu
theorem getD_at {l:List Int} {i:Nat} (h:i<l.length):l[i]?=some (l.getD i 0):=by
 rw [bJ,aO h];rfl
theorem Dn.rlE (hL:Lab n E L) {l:List Int} (h:Dn n E l) {e:Int × Int} (hm:e∈E) (he:0<=e.1/\e.1<n/\0<=e.2/\e.2<n) :
  Dn n E (rlE l e)/\(∀(v:Nat),(rlE l e).getD v 0<=l.getD v 0) /\
  (l.getD e.1.toNat 0=L.getD e.1.toNat 0->(rlE l e).getD e.2.toNat 0=L.getD e.2.toNat 0) /\
  (l.getD e.2.toNat 0=L.getD e.2.toNat 0->(rlE l e).getD e.1.toNat 0=L.getD e.1.toNat 0):=by
 obtain ⟨h1,h2,h3,h4⟩:=he;have i1:e.1.toNat<l.length:=by rw [h.1];omega
 have i2:e.2.toNat<l.length:=by rw [h.1];omega
 have j1:e.1.toNat<L.length:=by rw [hL.1];omega
 have j2:e.2.toNat<L.length:=by rw [hL.1];omega
 have c12:Con E (e.1.toNat:Int) (e.2.toNat:Int):=by
  rw [Int.toNat_of_nonneg h1,Int.toNat_of_nonneg h3];exact .of hm
 have hLe:=(hL.iff (getD_at j1) (getD_at j2)).2 c12;have a1:=h.2 _ _ (getD_at i1);have a2:=h.2 _ _ (getD_at i2);have g1:=h.ge hL (getD_at i1) (getD_at j1);have g2:=h.ge hL (getD_at i2) (getD_at j2);have gs:∀(i:Nat) (z:Int) (v:Nat),i<l.length->(l.set i z).getD v 0=if i=v then z else l.getD v 0:=by
  intro i z v hi;rw [bJ,List.getElem?_set];split
  ·subst v;simp
  ·rw [bJ]
 unfold Go.Fw.rlE;simp only;by_cases hlt:l.getD e.1.toNat 0<l.getD e.2.toNat 0
 ·rw [if_pos hlt,if_neg (by omega)];refine ⟨h.set (c12.symm.trans a1.1) a1.2,fun v => ?_,fun hd => ?_,fun hd => ?_⟩
  ·rw [gs _ _ _ i2];split
   ·subst v;omega
   ·exact Int.le_refl _
  ·rw [gs _ _ _ i2,if_pos rfl];omega
  ·omega
 ·rw [if_neg hlt];by_cases hgt:l.getD e.2.toNat 0<l.getD e.1.toNat 0
  ·rw [if_pos hgt];refine ⟨h.set (c12.trans a2.1) a2.2,fun v => ?_,fun hd => ?_,fun hd => ?_⟩
   ·rw [gs _ _ _ i1];split
    ·subst v;omega
    ·exact Int.le_refl _
   ·omega
   ·rw [gs _ _ _ i1,if_pos rfl];omega
  ·rw [if_neg hgt];refine ⟨h,fun v=>Int.le_refl _,fun hd => ?_,fun hd => ?_⟩<;>omega
theorem Dn.rnd (hL:Lab n E L) (hE:kz n E):∀(D:List (Int × Int)) (l:List Int),(∀e,e∈D->e∈E)->Dn n E l ->
  Dn n E (lrnd D l)/\(∀v:Nat,(lrnd D l).getD v 0<=l.getD v 0) /\
  ∀e,e∈D->(l.getD e.1.toNat 0=L.getD e.1.toNat 0->(lrnd D l).getD e.2.toNat 0=L.getD e.2.toNat 0)/\(l.getD e.2.toNat 0=L.getD e.2.toNat 0->(lrnd D l).getD e.1.toNat 0=L.getD e.1.toNat 0)
 | [],l,_,h=>⟨h,fun v=>Int.le_refl _,fun e he=>by cases he⟩
 | e::D,l,hs,h=>by
  have hm:=hs e (List.mem_cons_self ..)
  obtain ⟨h1,h2,h3,h4⟩:=h.rlE hL hm (hE e hm)
  obtain ⟨k1,k2,k3⟩:=Dn.rnd hL hE D (Go.Fw.rlE l e) (fun x hx=>hs x (List.mem_cons_of_mem _ hx)) h1
  -- what is done stays done
  have dn:∀{l':List Int} (v:Nat),v<n->Dn n E l'->(∀u:Nat,l'.getD u 0<=l.getD u 0)->l.getD v 0=L.getD v 0->l'.getD v 0=L.getD v 0:=by
   intro l' v hv hl' hle hd;have hg:=hl'.ge hL (getD_at (l:=l') (i:=v) (by rw [hl'.1];exact hv)) (getD_at (l:=L) (i:=v) (by rw [hL.1];exact hv));have:=hle v;omega
  have dn':∀(v:Nat),v<n->(Go.Fw.rlE l e).getD v 0=L.getD v 0->(Go.Fw.lrnd D (Go.Fw.rlE l e)).getD v 0=L.getD v 0:=by
   intro v hv hd
   have hg:=k1.ge hL (getD_at (i:=v) (by rw [k1.1];exact hv)) (getD_at (l:=L) (i:=v) (by rw [hL.1];exact hv))
   have:=k2 v
   omega
  refine ⟨k1,fun v=>Int.le_trans (k2 v) (h2 v),fun e' he' => ?_⟩
  rcases List.mem_cons.1 he' with rfl|he'
  ·have hb:=hE _ hm
   exact ⟨fun hd=>dn' _ (by omega) (h3 hd),fun hd=>dn' _ (by omega) (h4 hd)⟩
  ·have hb:=hE _ (hs e' (List.mem_cons_of_mem _ he'))
   exact ⟨fun hd=>(k3 e' he').1 (dn _ (by omega) h1 h2 hd),fun hd=>(k3 e' he').2 (dn _ (by omega) h1 h2 hd)⟩
def M9 (n:Nat) (L l:List Int):Nat:=(List.range n).countP fun v=>decide (l.getD v 0=L.getD v 0)
theorem Yq {p q:Nat->Bool}:∀{m:List Nat},(∀x,x∈m->p x=true->q x=true)->(∃x,x∈m/\p x=false/\q x=true)->m.countP p<m.countP q
 | [],_,⟨x,hx,_⟩=>by cases hx
 | a::m,h,⟨x,hx,hp,hq⟩=>by
  rw [List.countP_cons,List.countP_cons];have hle:m.countP p<=m.countP q:=List.countP_mono_left fun y hy=>h y (List.mem_cons_of_mem _ hy)
  rcases List.mem_cons.1 hx with rfl|hx
  ·rw [if_neg (by simp [hp]),if_pos hq];omega
  ·have:=Yq (fun y hy=>h y (List.mem_cons_of_mem _ hy)) ⟨x,hx,hp,hq⟩;have ha:=h a (List.mem_cons_self ..);cases hpa:p a with
   | true=>rw [ha hpa];simp;omega
   | false=>cases hqa:q a<;>simp<;>omega
theorem abM {D:Int->Prop} {u v:Int} (h:Con E u v) (hu:D u) (hv:¬D v):∃x y:Int,D x/\¬D y/\((x,y)∈E\/(y,x)∈E):=by
 induction h with
 | refl=>exact absurd hu hv
 | @fwd a b _ he ih=>
  by_cases hb:D a
  ·exact ⟨_,_,hb,hv,.inl he⟩
  ·exact ih hb
 | @bwd a b _ he ih=>
  by_cases hb:D a
  ·exact ⟨_,_,hb,hv,.inr he⟩
  ·exact ih hb
def Jg (E:List (Int × Int)):Nat->List Int->List Int
 | 0,l=>l
 | k+1,l=>Jg E k (Go.Fw.lrnd E l)
theorem Yr (hL:Lab n E L) (hE:kz n E) {l:List Int} (h:Dn n E l) (hs:∀v:Nat,v<n->L.getD v 0=v->l.getD v 0=v) (hne:l≠L) :
  M9 n L l<M9 n L (Go.Fw.lrnd E l):=by
 obtain ⟨k1,k2,k3⟩:=Dn.rnd hL hE E l (fun _ h=>h) h;have stay:∀v:Nat,v<n->l.getD v 0=L.getD v 0->(Go.Fw.lrnd E l).getD v 0=L.getD v 0:=by
  intro v hv hd;have hg:=k1.ge hL (getD_at (i:=v) (by rw [k1.1];exact hv)) (getD_at (l:=L) (i:=v) (by rw [hL.1];exact hv));have:=k2 v;omega
 have:∃v:Nat,v<n/\l.getD v 0≠L.getD v 0:=by
  apply Classical.byContradiction;intro hn;apply hne;apply List.ext_getElem?;intro i;by_cases hi:i<n
  ·rw [getD_at (l:=l) (i:=i) (by rw [h.1];exact hi),getD_at (l:=L) (i:=i) (by rw [hL.1];exact hi)];congr 1;exact Classical.byContradiction fun hc=>hn ⟨i,hi,hc⟩
  ·rw [List.getElem?_eq_none (by rw [h.1];omega),List.getElem?_eq_none (by rw [hL.1];omega)]
 obtain ⟨v,hv,hnd⟩:=this;have gL:=getD_at (l:=L) (i:=v) (by rw [hL.1];exact hv);have hm:=hL.lt gL;have hself:=hL.self gL;have hcon:=(hL.2 v _ gL).1;obtain ⟨x,y,hx,hy,he⟩:=abM (D:=fun z:Int=>0<=z/\z<n/\l.getD z.toNat 0=L.getD z.toNat 0) hcon.symm
  ⟨hm.1,hm.2,by
   have e1:L.getD (L.getD v 0).toNat 0=L.getD v 0:=by rw [bJ (i:=(L.getD v 0).toNat),hself];rfl
   rw [e1,hs (L.getD v 0).toNat (by omega) (by rw [e1];omega)];omega⟩
  (fun hd=>hnd (by simpa using hd.2.2))
 refine Yq (fun z hz hp => ?_) ⟨y.toNat,?_,?_,?_⟩
 ·simp only [decide_eq_true_eq] at hp ⊢;exact stay z (List.mem_range.1 hz) hp
 ·rw [List.mem_range];rcases he with he|he<;>have:=hE _ he<;>simp only at this<;>omega
 ·simp only [decide_eq_false_iff_not];intro hd;apply hy;rcases he with he|he<;>have:=hE _ he<;>simp only at this<;>exact ⟨by omega,by omega,hd⟩
 ·simp only [decide_eq_true_eq];rcases he with he|he
  ·exact (k3 _ he).1 hx.2.2
  ·exact (k3 _ he).2 hx.2.2
theorem Yt (hL:Lab n E L) (hE:kz n E):∀(k:Nat) (l:List Int),Dn n E l->(∀v:Nat,v<n->L.getD v 0=v->l.getD v 0=v)->n<=M9 n L l+k->Jg E k l=L
 | 0,l,h,hs,hc=>by
  have hall:M9 n L l=n:=by
   have:M9 n L l<=(List.range n).length:=List.countP_le_length;rw [List.length_range] at this;omega
  apply Classical.byContradiction
  intro hne
  have:=Yr hL hE h hs hne
  have:M9 n L (Go.Fw.lrnd E l)<=(List.range n).length:=List.countP_le_length
  rw [List.length_range] at this
  omega
 | k+1,l,h,hs,hc=>by
  obtain ⟨k1,k2,_⟩:=Dn.rnd hL hE E l (fun _ h=>h) h
  refine Yt hL hE k (Go.Fw.lrnd E l) k1 (fun v hv e => ?_) ?_
  ·have hg:=k1.ge hL (getD_at (i:=v) (by rw [k1.1];exact hv)) (getD_at (l:=L) (i:=v) (by rw [hL.1];exact hv))
   have:=k2 v
   have:=hs v hv e
   omega
  ·by_cases hne:l=L
   ·subst hne
    have:M9 n l (Go.Fw.lrnd E l)=n:=by
     unfold M9
     rw [show n=(List.range n).length from by simp,<-List.length_range (n:=n),List.countP_eq_length.2]
     ·simp
     ·intro v hv
      simp only [List.length_range,List.mem_range] at hv
      simp only [decide_eq_true_eq]
      have hg:=k1.ge hL (getD_at (i:=v) (by rw [k1.1];exact hv)) (getD_at (l:=l) (i:=v) (by rw [hL.1];exact hv))
      have:=k2 v
      omega
    omega
   ·have:=Yr hL hE h hs hne
    omega
theorem ahG (hE:kz n E):Jg E n (qb n)=labs n E:=by
 refine Yt (iK hE) hE n (qb n) ⟨qc n,fun v x h => ?_⟩ (fun v hv e => ?_) (by omega)
 ·obtain ⟨_,rfl⟩:=RH h;exact ⟨.refl _,Int.natCast_nonneg v⟩
 ·have:=getD_at (l:=qb n) (i:=v) (by rw [qc];exact hv);exact (RH this).2
end
theorem RI (a b c:Int):bg (a,b,c)=some (decide (b<=a)&&decide (a<=c),()):=by
 show QE BIG _=_;rw [alC];cases decide (b<=a)<;>rfl
theorem am4 (a b c:Int):dZ (a,b,c)=some (decide (b<=a)&&decide (a<=c),()):=by
 show ag_ BIG _=_;rw [aqC];cases decide (b<=a)<;>rfl
abbrev Ed:=Int × Int
def AU (own:List Int) (s:Int) (y:Ed):Bool:=(decide (0<=y.1)&&decide (y.1<own.length)&&decide (own[y.1.toNat]?=some s))&&(decide (0<=y.2)&&decide (y.2<own.length)&&decide (own[y.2.toNat]?=some s))
theorem afc (own:List Int) (h:own.length<=1048576) (v s:Int):Oa (own,v,s)=some (decide (0<=v)&&decide (v<own.length)&&decide (own[v.toNat]?=some s),()):=by
 show Wi BIG _=_;rw [an4,am4,ae,wr (by omega) (by omega)];by_cases h0:0<=v
 ·by_cases h1:v<own.length
  ·have hi:v.toNat<own.length:=by omega
   rw [ai h0,ai h1,ai (by omega)];simp only [Bool.and_self,ah];rw [bn h0 h1,aO hi];simp
  ·rw [ai h0,au h1,au (by omega)];rfl
 ·rw [au h0];rfl
theorem jC {α:Type} (p:α->Bool):∀(l:List α) (s:List α),l.foldl (fun s y=>if p y then s++[y] else s) s=s++l.filter p
 | [],s=>by simp
 | y::l,s=>by
  rw [List.foldl_cons,jC p l];cases h:p y<;>simp [h]
theorem akb (own:List Int) (es:List Ed) (s:Int) (h:own.length<=1048576) (he:es.length<=1048576):M8 (own,es,s)=some (es.filter (AU own s),()):=by
 have hm:maxLen=9223372036854775807:=by decide
 show M7 BIG _=_;rw [aj_,gQ es (by omega) (fun i (c:List Ed)=>c.length<=i) (fun c y=>if AU own s y then c++[y] else c) id (by simp) (fun i c y _ (h:c.length<=i)=>by show List.length (if _ then _ else _)<=_;split<;>(try simp)<;>omega)]
 ·rw [jC];rfl
 ·intro self c i y hy (hc:c.length<=i);have hi:=(aS hy).1;simp only [show ((i:Int)<(es.length:Int)) from by omega,decide_true,ah];rw [aB hi,hy,ae,afc _ h,ae,afc _ h,bE (by omega)];unfold AU;cases decide (0<=y.1)&&decide (y.1<own.length)&&decide (own[y.1.toNat]?=some s)<;>cases decide (0<=y.2)&&decide (y.2<own.length)&&decide (own[y.2.toNat]?=some s)<;>simp [show c.length+1<=4294967296 from by omega]
 ·intro self c hc;simp
theorem akc (own:List Int) (es:List Ed) (s:Int) (h:own.length<=1048576) (he:es.length<=1048576):Lv (own,es,s)=some (es.filter (AU own s),()):=by
 have hm:maxLen=9223372036854775807:=by decide
 show Lu BIG _=_;rw [ajF,gQ es (by omega) (fun i (c:List Ed)=>c.length<=i) (fun c y=>if AU own s y then c++[y] else c) id (by simp) (fun i c y _ (h:c.length<=i)=>by show List.length (if _ then _ else _)<=_;split<;>(try simp)<;>omega)]
 ·rw [jC];rfl
 ·intro self c i y hy (hc:c.length<=i);have hi:=(aS hy).1;simp only [show ((i:Int)<(es.length:Int)) from by omega,decide_true,ah];rw [aB hi,hy,ae,RI,ae,RI,ae,bE (by omega),wr (by omega) (by omega)];unfold AU;by_cases a1:0<=y.1
  ·by_cases a2:y.1<own.length
   ·by_cases b1:0<=y.2
    ·by_cases b2:y.2<own.length
     ·have k1:y.1.toNat<own.length:=by omega
      have k2:y.2.toNat<own.length:=by omega
      rw [bn a1 a2,bn b1 b2,aO k1,aO k2];by_cases c1:own[y.1.toNat]=s<;>by_cases c2:own[y.2.toNat]=s<;>simp [a1,a2,b1,b2,c1,c2,show y.1<=(own.length:Int)-1 from by omega,show y.2<=(own.length:Int)-1 from by omega,show c.length+1<=4294967296 from by omega]
     ·have:¬y.2<=(own.length:Int)-1:=by omega
      simp [a1,a2,b1,b2,this]
    ·simp [a1,a2,b1]
   ·have:¬y.1<=(own.length:Int)-1:=by omega
    simp [a1,a2,this]
  ·simp [a1]
 ·intro self c hc;simp
abbrev Sd:=Int × Int × Int × Int × Int × Int
def aU (a b c:Int):Bool:=decide (b<=a)&&decide (a<=c)
theorem bI (a b c:Int):bg (a,b,c)=some (aU a b c,()):=RI a b c
theorem gY (a b c:Int):dZ (a,b,c)=some (aU a b c,()):=am4 a b c
theorem aQ {a b c:Int}:aU a b c=true↔b<=a/\a<=c:=by simp [aU]
def df (n:Int) (e:Ed):Bool:=aU n 1 12&&(aU e.1 0 (n-1)&&(aU e.2 0 (n-1)&&decide (e.1<e.2)))
theorem M_ (n:Int) (e:Ed):wF (n,e)=some (df n e,()):=by
 show L8 BIG _=_;rw [ajN,gY,ae];unfold df;cases h:aU n 1 12 with
 | false=>rfl
 | true=>
  have:=aQ.1 h;rw [wr (by omega) (by omega)];simp only [gY,ae,ah,Bool.true_and];cases aU e.1 0 (n-1)<;>cases aU e.2 0 (n-1)<;>rfl
theorem BX (n:Int) (e:Ed):qC (n,e)=some (df n e,()):=by
 show KL BIG _=_;rw [ajo,bI,ae];unfold df;cases h:aU n 1 12 with
 | false=>rfl
 | true=>
  have:=aQ.1 h;rw [wr (by omega) (by omega)];simp only [bI,ae,ah,Bool.true_and];cases aU e.1 0 (n-1)<;>cases aU e.2 0 (n-1)<;>rfl
def lsB (x y:Ed):Bool:=decide (x.1<y.1) || (decide (x.1=y.1)&&decide (x.2<y.2))
theorem RJ (x y:Ed):uL (x,y)=some (lsB x y,()):=by
 show Q3 BIG _=_;rw [alK];unfold lsB;cases decide (x.1<y.1)<;>cases decide (x.1=y.1)<;>rfl
theorem Jh (x y:Ed):rJ (x,y)=some (lsB x y,()):=by
 show Gn BIG _=_;rw [agx];unfold lsB;cases decide (x.1<y.1)<;>cases decide (x.1=y.1)<;>rfl
def eP (n:Int) (es:List Ed) (i:Nat):Bool:=match es[i]? with
 | some y=>df n y&&(match i with
  | 0=>true
  | j+1=>match es[j]? with
   | some x=>lsB x y
   | none=>false)
 | none=>false
theorem ahH {n:Int} {es:List Ed} {y:Ed} (h:es[0]?=some y):eP n es 0=df n y:=by
 unfold eP;rw [h];simp
theorem ahI {n:Int} {es:List Ed} {x y:Ed} {j:Nat} (h:es[j+1]?=some y) (h':es[j]?=some x):eP n es (j+1)=(df n y&&lsB x y):=by
 unfold eP;rw [h];simp only [h']
def iV (n:Int) (es:List Ed):Bool:=if ∀i,i<es.length->eP n es i=true then decide ((es.length:Int)<=66) else false
theorem jJ {n:Int} {es:List Ed} (h:iV n es=true):es.length<=66:=by
 unfold iV at h;split at h
 ·rw [decide_eq_true_eq] at h;omega
 ·cases h
theorem yl (n:Int) (es:List Ed) (hl:es.length<=1048576):nG (n,es)=some (iV n es,()):=by
 have hm:maxLen=9223372036854775807:=by decide
 show Ie BIG _=_;rw [ahb,iJ es (by omega) (eP n es) false]
 ·unfold iV;split<;>rfl
 ·intro self i y hy;have hi:=(aS hy).1;simp only [show ((i:Int)<(es.length:Int)) from by omega,decide_true,ah];rw [aB hi,hy,ae,M_,bE (by omega)];cases i with
  | zero=>
   rw [ahH hy];cases df n y<;>simp
  | succ j=>
   have hj:es[j]?=some (es[j]'(by omega)):=aO (by omega);rw [ahI hy hj,show (((j+1:Nat):Int)-1)=(j:Int) from by omega,wr (n:=(j:Int)) (by omega) (by omega)];cases hb:df n y with
   | false=>simp
   | true=>
    simp only [ae,aZ,aj,show (0:Int)<((j+1:Nat):Int) from by omega,decide_true,ah,Bool.true_and];rw [aB (by omega),hj];simp only [ae];simp only [ae,RJ];cases lsB _ y<;>rfl
 ·intro self;simp
theorem vN (n:Int) (es:List Ed) (hl:es.length<=1048576):lJ (n,es)=some (iV n es,()):=by
 have hm:maxLen=9223372036854775807:=by decide
 show CF BIG _=_;rw [acM,iJ es (by omega) (eP n es) false]
 ·unfold iV;split<;>rfl
 ·intro self i y hy;have hi:=(aS hy).1;simp only [show ((i:Int)<(es.length:Int)) from by omega,decide_true,ah];rw [aB hi,hy,ae,BX,bE (by omega)];cases i with
  | zero=>
   rw [ahH hy];cases df n y<;>simp
  | succ j=>
   have hj:es[j]?=some (es[j]'(by omega)):=aO (by omega);rw [ahI hy hj,show (((j+1:Nat):Int)-1)=(j:Int) from by omega,wr (n:=(j:Int)) (by omega) (by omega)];cases hb:df n y with
   | false=>simp
   | true=>
    simp only [ae,aZ,aj,show (0:Int)<((j+1:Nat):Int) from by omega,decide_true,ah,Bool.true_and];rw [aB (by omega),hj];simp only [ae];rw [aB hi,hy];simp only [ae,Jh];cases lsB _ y<;>rfl
 ·intro self;simp
abbrev Fq:=Int × Int × List (Int × Int) × Int
def mX (n:Int) (o:Fq):Bool:=aU n 1 12&&(aU o.1 1 100000&&(aU o.2.1 1 4&&(iV n o.2.2.1&&(if o.2.1=3 then decide (o.2.2.1.length=0)&&aU o.2.2.2 0 (n-1) else if o.2.1=4 then decide (0<o.2.2.1.length)&&decide (o.2.2.2=0) else decide (o.2.2.1.length=1)&&decide (o.2.2.2=0)))))
theorem UE (n:Int) (o:Fq) (hl:o.2.2.1.length<=1048576):xU (n,o)=some (mX n o,()):=by
 show GU BIG _=_;rw [agM];simp only [bI,vN n _ hl,ae];unfold mX;cases h:aU n 1 12 with
 | false=>rfl
 | true=>
  have:=aQ.1 h;rw [wr (by omega) (by omega)];cases h1:aU o.1 1 100000 with
  | false=>rfl
  | true=>
   cases h2:aU o.2.1 1 4 with
   | false=>rfl
   | true=>
    cases h3:iV n o.2.2.1 with
    | false=>rfl
    | true=>
     simp only [aZ,aj,ae,Bool.true_and];by_cases k3:o.2.1=3
     ·rw [if_pos k3,ai k3,ah];by_cases hz:o.2.2.1.length=0
      ·rw [ai hz,ai (by omega)];rfl
      ·rw [au hz,au (by omega)];rfl
     ·rw [if_neg k3,au k3,aj];by_cases k4:o.2.1=4
      ·rw [if_pos k4,ai k4,ah];by_cases hz:0<o.2.2.1.length
       ·rw [ai hz,ai (by omega)];rfl
       ·rw [au hz,au (by omega)];rfl
      ·rw [if_neg k4,au k4,aj];by_cases hz:o.2.2.1.length=1
       ·rw [ai hz,ai (by omega)];rfl
       ·rw [au hz,au (by omega)];rfl
theorem UF (n:Int) (o:Fq) (hl:o.2.2.1.length<=1048576):x_ (n,o)=some (mX n o,()):=by
 show Ii BIG _=_;rw [ahf];simp only [gY,yl n _ hl,ae];unfold mX;cases h:aU n 1 12 with
 | false=>rfl
 | true=>
  have:=aQ.1 h;rw [wr (by omega) (by omega)];cases h1:aU o.1 1 100000 with
  | false=>rfl
  | true=>
   cases h3:iV n o.2.2.1 with
   | false=>simp
   | true=>
    simp only [aZ,aj,ae,Bool.true_and];by_cases k3:o.2.1=3
    ·have h2:aU o.2.1 1 4=true:=aQ.2 (by omega);rw [h2,if_pos k3,ai k3];rw [au (by omega:¬o.2.1=1),au (by omega:¬o.2.1=2)];by_cases hz:o.2.2.1.length=0
     ·rw [ai hz,ai (show (o.2.2.1.length:Int)=0 from by omega)];by_cases hv:o.2.2.2=0<;>simp [hv]
     ·rw [au hz,au (show ¬(o.2.2.1.length:Int)=0 from by omega)];by_cases hv:o.2.2.2=0<;>simp [hv]
    ·rw [if_neg k3,au k3];by_cases hv:o.2.2.2=0
     ·simp only [hv,decide_true,aZ,aj,ae,Bool.and_true];by_cases k4:o.2.1=4
      ·have h2:aU o.2.1 1 4=true:=aQ.2 (by omega);rw [h2,if_pos k4,ai k4,au (by omega:¬o.2.1=1),au (by omega:¬o.2.1=2)];simp
      ·rw [if_neg k4,au k4];by_cases k1:o.2.1=1
       ·have h2:aU o.2.1 1 4=true:=aQ.2 (by omega);rw [h2,ai k1];simp;omega
       ·by_cases k2:o.2.1=2
        ·have h2:aU o.2.1 1 4=true:=aQ.2 (by omega);rw [h2,au k1,ai k2];simp;omega
        ·have h2:aU o.2.1 1 4=false:=by
          cases hh:aU o.2.1 1 4 with
          | false=>rfl
          | true=>have:=aQ.1 hh;omega
         rw [h2,au k1,au k2];rfl
     ·simp [hv]
def UG (l:List Int) (i:Nat):Bool:=match l[i]? with
 | some y=>aU y 0 i&&(match l[y.toNat]? with
  | some z=>decide (z=y)
  | none=>false)
 | none=>false
theorem akd {l:List Int} {i:Nat} {y z:Int} (h:l[i]?=some y) (h':l[y.toNat]?=some z):UG l i=(aU y 0 i&&decide (z=y)):=by
 unfold UG;rw [h];simp only [h']
theorem am5 {l:List Int} {i:Nat} {y:Int} (h:l[i]?=some y) (h':aU y 0 i=false):UG l i=false:=by
 unfold UG;rw [h];simp only [h',Bool.false_and]
def qd (n:Int) (l:List Int):Bool:=if (l.length:Int)=n then (if ∀i,i<l.length->UG l i=true then true else false) else false
theorem PU (n:Int) (l:List Int) (hl:l.length<=1048576):vH (n,l)=some (qd n l,()):=by
 have hm:maxLen=9223372036854775807:=by decide
 show DU BIG _=_;rw [adh];unfold qd;by_cases hn:(l.length:Int)=n
 ·rw [if_pos hn,ai hn,aZ,aj,iJ l (by omega) (UG l) false]
  ·split<;>rfl
  ·intro self i y hy;have hi:=(aS hy).1;simp only [show ((i:Int)<(l.length:Int)) from by omega,decide_true,ah];rw [aB hi,hy,ae,gY,bE (by omega)];cases hb:aU y 0 (i:Int) with
   | false=>rw [am5 hy hb];simp
   | true=>
    have:=aQ.1 hb;have hz:l[y.toNat]?=some (l[y.toNat]'(by omega)):=aO (by omega);rw [akd hy hz,hb];simp only [ae,aZ,aj,Bool.true_and];rw [bn (by omega) (by omega),hz];simp only [ae];by_cases hd:l[y.toNat]'(by omega)=y<;>simp [hd]
  ·intro self;simp
 ·rw [if_neg hn,au hn];rfl
theorem Na (n:Int) (l:List Int) (hl:l.length<=1048576):rX (n,l)=some (qd n l,()):=by
 have hm:maxLen=9223372036854775807:=by decide
 show zn BIG _=_;rw [aaS];unfold qd;by_cases hn:(l.length:Int)=n
 ·rw [if_pos hn,ai hn,aZ,aj];subst hn;rw [iJ l (by omega) (UG l) false]
  ·split<;>rfl
  ·intro self i y hy;have hi:=(aS hy).1;simp only [show ((i:Int)<(l.length:Int)) from by omega,decide_true,ah];simp only [aB hi,hy,ae,bI,bE (show i<maxLen from by omega)];cases hb:aU y 0 (i:Int) with
   | false=>rw [am5 hy hb];simp
   | true=>
    have:=aQ.1 hb;have hz:l[y.toNat]?=some (l[y.toNat]'(by omega)):=aO (by omega);rw [akd hy hz,hb];simp only [ae,aZ,aj,Bool.true_and];rw [bn (by omega) (by omega),hz];simp only [ae];by_cases hd:l[y.toNat]'(by omega)=y<;>simp [hd]
  ·intro self;simp
 ·rw [if_neg hn,au hn];rfl
abbrev An:=Int × Bool × List (Int × Int) × List Int
def lq (n:Int) (o:An):Bool:=aU n 1 12&&(aU o.1 1 100000&&(iV n o.2.2.1&&qd n o.2.2.2))
theorem PV (n:Int) (o:An) (hl:o.2.2.1.length<=1048576) (hl':o.2.2.2.length<=1048576):vL (n,o)=some (lq n o,()):=by
 show Ei BIG _=_;rw [ads];simp only [gY,yl n _ hl,PU n _ hl',ae];unfold lq;cases aU n 1 12<;>cases aU o.1 1 100000<;>cases iV n o.2.2.1<;>rfl
theorem PW (n:Int) (o:An) (hl:o.2.2.1.length<=1048576) (hl':o.2.2.2.length<=1048576):vw (n,o)=some (lq n o,()):=by
 show CY BIG _=_;rw [acX];simp only [bI,vN n _ hl,Na n _ hl',ae];unfold lq;cases aU n 1 12<;>cases aU o.1 1 100000<;>cases iV n o.2.2.1<;>rfl
theorem UH (x:Ed):lsB x x=false:=by simp [lsB]
theorem afd (x y:Ed):lsB x y=true↔x.1<y.1\/(x.1=y.1/\x.2<y.2):=by simp [lsB]
theorem wH {x y z:Ed} (h:lsB x y=true) (h':lsB y z=true):lsB x z=true:=by
 rw [afd] at *;omega
theorem Oc {x y:Ed} (h:lsB x y=false) (h':lsB y x=false):x=y:=by
 have h1:¬lsB x y=true:=by simp [h]
 have h2:¬lsB y x=true:=by simp [h']
 rw [afd] at h1 h2;exact Prod.ext (by omega) (by omega)
theorem Nc {x y:Ed} (h:lsB x y=true):lsB y x=false:=by
 cases h':lsB y x with
 | false=>rfl
 | true=>have:=wH h h';rw [UH] at this;cases this
abbrev oH (l:List Ed):Prop:=l.Pairwise (fun x y=>lsB x y=true)
def ins (l:List Ed) (e:Ed):List Ed:=l.filter (fun y=>lsB y e)++[e]++l.filter (fun y=>lsB e y)
theorem jq {l:List Ed} {e x:Ed}:x∈ins l e↔x=e\/x∈l:=by
 simp only [ins,List.mem_append,List.mem_filter,List.mem_singleton];constructor
 ·rintro ((h|h)|h)
  ·exact .inr h.1
  ·exact .inl h
  ·exact .inr h.1
 ·rintro (h|h)
  ·exact .inl (.inr h)
  ·cases h1:lsB x e with
   | true=>exact .inl (.inl ⟨h,rfl⟩)
   | false=>
    cases h2:lsB e x with
    | true=>exact .inr ⟨h,rfl⟩
    | false=>exact .inl (.inr (Oc h1 h2))
theorem Wn {l:List Ed} {e:Ed} (h:oH l):oH (ins l e):=by
 simp only [ins,oH,List.append_assoc,List.pairwise_append,List.singleton_append,List.pairwise_cons];refine ⟨h.filter _,⟨fun y hy=>(List.mem_filter.1 hy).2,h.filter _⟩,fun x hx y hy => ?_⟩;have h1:=(List.mem_filter.1 hx).2;rcases List.mem_cons.1 hy with hy|hy
 ·subst hy;exact h1
 ·exact wH h1 (List.mem_filter.1 hy).2
theorem Fu (e:Ed):∀l:List Ed,(l.filter (fun y=>lsB y e)).length+(l.filter (fun y=>lsB e y)).length<=l.length
 | []=>by simp
 | y::l=>by
  have:=Fu e l;simp only [List.filter_cons];cases h1:lsB y e<;>cases h2:lsB e y<;>simp
  ·omega
  ·omega
  ·omega
  ·rw [Nc h1] at h2;cases h2
theorem an7 (l:List Ed) (e:Ed):(ins l e).length<=l.length+1:=by
 have:=Fu e l;simp only [ins,bZ,List.length_singleton];omega
def tF:List Ed->Ed->Nat
 | [],_=>0
 | y::l,e=>if lsB y e then tF l e+1 else 0
theorem Wo {l:List Ed} {e:Ed} (h:oH l) (hne:e∉l):l.take (tF l e)++[e]++l.drop (tF l e)=ins l e:=by
 induction l with
 | nil=>rfl
 | cons y l ih=>
  rw [oH,List.pairwise_cons] at h;have ih:=ih h.2 (fun hh=>hne (by simp [hh]));cases h1:lsB y e with
  | true=>
   have h2:=Nc h1;simp only [tF,h1,if_true,List.take_succ_cons,List.drop_succ_cons,List.cons_append,ih];simp only [ins,List.filter_cons,h1,h2,if_true,List.cons_append];simp
  | false=>
   have h2:lsB e y=true:=by
    cases h2:lsB e y with
    | true=>rfl
    | false=>exact absurd (Oc h1 h2).symm (fun hh=>hne (by simp [hh]))
   have h3:∀z,z∈l->lsB z e=false/\lsB e z=true:=fun z hz=>by
    have:=wH h2 (h.1 z hz);exact ⟨Nc this,this⟩
   have f1:l.filter (fun y=>lsB y e)=[]:=by
    rw [List.filter_eq_nil_iff];intro z hz;simp [(h3 z hz).1]
   have f2:l.filter (fun y=>lsB e y)=l:=by
    rw [List.filter_eq_self];intro z hz;exact (h3 z hz).2
   simp only [tF,h1,ins,List.filter_cons,h2,if_true,f1,f2];simp
theorem wI (l:List Ed) (e:Ed) (hl:l.length<=maxLen):qE (l,e)=some (decide (e∈l),()):=by
 show Br BIG _=_;rw [XL,iJ l (Nat.lt_of_le_of_lt hl Yp) (fun i=>decide (l[i]?≠some e)) true (fun self i y hy=>by
   have hi:=(aS hy).1
   simp only [show ((i:Int)<(l.length:Int)) from by omega,decide_true,ah]
   rw [aB hi,hy,ae,bE (by omega)]
   obtain ⟨y1,y2⟩:=y
   obtain ⟨e1,e2⟩:=e
   by_cases h1:y1=e1<;>by_cases h2:y2=e2<;>simp [h1,h2]) (fun self=>by simp)]
 by_cases h:e∈l
 ·rw [if_neg,ai h]
  ·rfl
  ·intro hh;obtain ⟨i,hi⟩:=List.getElem?_of_mem h;have:=hh i (aS hi).1;rw [decide_eq_true_eq] at this;exact this hi
 ·rw [if_pos,au h]
  ·rfl
  ·intro i hi;rw [decide_eq_true_eq];exact fun hh=>h (List.mem_of_getElem? hh)
theorem Ji (l:List Ed) (e:Ed) (hl:l.length<=maxLen):sU (l,e)=some (decide (e∈l),()):=by
 rw [<-wI l e hl];show Ir BIG _=Br BIG _;rw [ahj,XL];all_goals rfl
theorem Nf (l:List Ed) (e:Ed) (hl:l.length<=1048576):wC (l,e)=some (ins l e,()):=by
 have hm:maxLen=9223372036854775807:=by decide
 show K7 BIG _=_;rw [ajx,gQ l (by omega) (fun i (c:List Ed)=>c.length<=i) (fun c y=>if lsB y e then c++[y] else c) id (by simp) (fun i c y _ (h:c.length<=i)=>by show List.length (if _ then _ else _)<=_;split<;>(try simp)<;>omega)]
 ·rw [jC];simp only [id,List.nil_append,ae];have h1:=List.length_filter_le (fun y=>lsB y e) l;rw [ai (by simp;omega),ah,gQ l (by omega) (fun i (c:List Ed)=>c.length<=l.length+1+i) (fun c y=>if lsB e y then c++[y] else c) id (by simp;omega) (fun i c y _ (h:c.length<=_)=>by show List.length (if _ then _ else _)<=_;split<;>(try simp)<;>omega)]
  ·rw [jC];rfl
  ·intro self c i y hy (hc:c.length<=_);have hi:=(aS hy).1;simp only [show ((i:Int)<(l.length:Int)) from by omega,decide_true,ah];simp only [aB hi,hy,ae,Jh,bE (show i<maxLen from by omega)];cases lsB e y with
   | false=>simp
   | true=>simp [show c.length+1<=4294967296 from by omega]
  ·intro self c hc;simp
 ·intro self c i y hy (hc:c.length<=i);have hi:=(aS hy).1;simp only [show ((i:Int)<(l.length:Int)) from by omega,decide_true,ah];simp only [aB hi,hy,ae,Jh,bE (show i<maxLen from by omega)];cases lsB y e with
  | false=>simp
  | true=>simp [show c.length+1<=4294967296 from by omega]
 ·intro self c hc;simp
theorem ake:∀(l:List Ed) (e:Ed),tF l e<=l.length
 | [],_=>by simp [tF]
 | y::l,e=>by
  have:=ake l e;simp only [tF,bA];split<;>omega
theorem akf:∀{l:List Ed} {e y:Ed} {i:Nat},i<=tF l e->l[i]?=some y->lsB y e=decide (i<tF l e)
 | [],_,_,_,_,hy=>by simp at hy
 | z::l,e,y,i,hi,hy=>by
  cases hz:lsB z e with
  | false=>
   simp only [tF,hz] at hi ⊢;have:i=0:=by simpa using hi
   subst this;simp only [List.getElem?_cons_zero,aK] at hy;subst hy;simp [hz]
  | true=>
   simp only [tF,hz,if_true] at hi ⊢;cases i with
   | zero=>
    simp only [List.getElem?_cons_zero,aK] at hy;subst hy;simp [hz]
   | succ i=>
    simp only [List.getElem?_cons_succ] at hy;rw [akf (by omega) hy];simp
theorem Ew (l:List Ed) (e:Ed) (hl:l.length<=1048576):oG (l,e)=some (l.take (tF l e)++[e]++l.drop (tF l e),()):=by
 have hm:maxLen=9223372036854775807:=by decide
 have hle:=ake l e;show D8 BIG _=_;rw [adl,ig (fun (x:Int)=>∃i:Nat,x=i/\i<=tF l e) (fun (x:Int)=>l.length-x.toNat) (fun _=>((tF l e:Nat):Int)) (fun self x ⟨i,h1,h2⟩ hs=>by
  subst h1
  by_cases hi:i<l.length
  ·have hy:=aO hi
   have hat:=akf h2 hy
   simp only [show ((i:Int)<(l.length:Int)) from by omega,decide_true,ah]
   simp only [aB hi,hy,ae,RJ,bE (show i<maxLen from by omega),hat]
   by_cases hlt:i<tF l e
   ·rw [ai hlt,ah]
    exact hs _ ⟨i+1,rfl,hlt⟩ (by simp;omega)
   ·rw [au hlt,aj]
    have:i=tF l e:=by omega
    rw [<-this]
  ·have:i=l.length:=by omega
   have h3:tF l e=i:=by omega
   rw [h3,this]
   simp) (n:=BIG) (x:=0) (by simp [BIG];omega) ⟨0,rfl,by omega⟩]
 simp only [ae,fH,Nat.sub_zero,List.drop_zero];rw [ai (by omega),ah,ai (by omega),ah,ai (by simp;omega),ah,ai (by simp;omega),ah,ah,ai (by omega),ah,ai (by simp;omega),ah];congr 3;rw [List.take_of_length_le];simp
def fM {S α:Type} (st:S->α->Option S):S->List α->Option S
 | s,[]=>some s
 | s,y::l=>(st s y).bind fun s'=>fM st s' l
theorem qf {α S B:Type} (a:List α) (hl:a.length<18446744073709551616) {F:(S × Int->Option (S ⊕ B))->S × Int->Option (S ⊕ B)} (I:Nat->S->Prop) (st:S->α->Option S) (b:B) {s0:S} (h0:I 0 s0)
  (hI:∀i s y s',a[i]?=some y->I i s->st s y=some s'->I (i+1) s')
  (hF:∀self s (i:Nat) y,a[i]?=some y->I i s->F self (s,(i:Int))=match st s y with
   | some s'=>self (s',((i+1:Nat):Int))
   | none=>some (.inr b))
  (hE:∀self s,I a.length s->F self (s,(a.length:Int))=some (.inl s)):aI BIG F (s0,0)=some (match fM st s0 a with
   | some s=>.inl s
   | none=>.inr b):=by
 have:=ig (F:=F) (fun x=>∃i:Nat,x.2=i/\i<=a.length/\I i x.1) (fun x=>a.length-x.2.toNat) (fun x=>match fM st x.1 (a.drop x.2.toNat) with
   | some s=>.inl s
   | none=>.inr b) (fun self x ⟨i,h1,h2,h3⟩ hs => ?_) (n:=BIG) (x:=(s0,0)) (by simp;exact hl) ⟨0,rfl,by simp,h0⟩
 ·simpa using this
 ·obtain ⟨s,j⟩:=x;simp only at h1 h2 h3;subst h1;by_cases hi:i<a.length
  ·have hy:=aO hi;rw [hF self s i a[i] hy h3];simp only [fH];rw [List.drop_eq_getElem_cons hi];simp only [fM];cases hst:st s a[i] with
   | none=>rfl
   | some s'=>
    simp only [ae];rw [hs _ ⟨i+1,rfl,hi,hI _ _ _ _ hy h3 hst⟩ (by simp;omega)];simp
  ·have:i=a.length:=by omega
   subst this;rw [hE self s h3];simp [fM]
def xD (out:List Ed) (e:Ed):Option (List Ed):=if e∈out then none else some (ins out e)
theorem RL {out s':List Ed} {e:Ed} (h:xD out e=some s'):e∉out/\s'=ins out e:=by
 unfold xD at h;split at h
 ·cases h
 ·cases h;exact ⟨by assumption,rfl⟩
theorem afe:∀{A s s':List Ed},fM xD s A=some s'->A.Nodup/\(∀x,x∈A->x∉s)/\(∀x,x∈s'↔x∈s\/x∈A)/\(oH s->oH s')/\s'.length<=s.length+A.length
 | [],s,s',h=>by
  simp only [fM,aK] at h;subst h;exact ⟨List.nodup_nil,by simp,by simp,id,by simp⟩
 | e::A,s,s',h=>by
  simp only [fM,Option.bind_eq_some_iff] at h;obtain ⟨s1,h1,h2⟩:=h;obtain ⟨hne,rfl⟩:=RL h1;obtain ⟨k1,k2,k3,k4,k5⟩:=afe h2;refine ⟨List.nodup_cons.2 ⟨fun hh=>k2 e hh (jq.2 (.inl rfl)),k1⟩,fun x hx => ?_,fun x => ?_,fun hs=>k4 (Wn hs),?_⟩
  ·rcases List.mem_cons.1 hx with rfl|hx
   ·exact hne
   ·exact fun hh=>k2 x hx (jq.2 (.inr hh))
  ·rw [k3,jq,List.mem_cons];constructor
   ·rintro ((h|h)|h)
    ·exact .inr (.inl h)
    ·exact .inl h
    ·exact .inr (.inr h)
   ·rintro (h|h|h)
    ·exact .inl (.inr h)
    ·exact .inl (.inl h)
    ·exact .inr h
  ·have:=an7 s e;simp only [bA];omega
theorem am6:∀{A s:List Ed},A.Nodup->(∀x,x∈A->x∉s)->∃s',fM xD s A=some s'
 | [],s,_,_=>⟨s,rfl⟩
 | e::A,s,h,h'=>by
  have hn:=List.nodup_cons.1 h;have h1:xD s e=some (ins s e):=by unfold xD;rw [if_neg (h' e (by simp))]
  obtain ⟨s',hs⟩:=am6 (A:=A) (s:=ins s e) hn.2 fun x hx hh=>by
   rcases jq.1 hh with rfl|hh
   ·exact hn.1 hx
   ·exact h' x (by simp [hx]) hh
  exact ⟨s',by simp only [fM,h1,ae];exact hs⟩
theorem apX (n:Int):bits .and .i64 n 255=n % 256:=by
 have h255:(BitVec.ofInt 64 255).toNat=2 ^ 8-1:=by decide
 have key:(BitVec.ofInt 64 n &&& BitVec.ofInt 64 255).toNat=(n % ((2 ^ 64:Nat):Int)).toNat % 2 ^ 8:=by
  rw [BitVec.toNat_and,BitVec.toNat_ofInt,h255,Nat.and_two_pow_sub_one_eq_mod]
 show IntKind.i64.wrap ((BitVec.ofInt 64 n &&& BitVec.ofInt 64 255).toNat:Nat)=n % 256;rw [key,IntKind.wrap_i64];omega
abbrev Fv:=List Int × Int × Int
def jF (c:Fv):Prop:=c.1.length<=1048576/\0<=c.2.1/\c.2.1<=c.1.length
theorem ym (c:Fv) (hc:jF c):∃r c',jX c=some (r,c')/\jF c'/\0<=r/\r<=255:=by
 have e:jX c=F7 BIG c:=rfl;obtain ⟨h1,h2,h3⟩:=hc;rw [e,agm,au (by decide),aj,au (by decide),aj];simp only [apX];by_cases h:c.2.1<c.1.length
 ·rw [ai h,ah,bn h2 h,aO (by omega),ae,ae];refine ⟨_,_,rfl,⟨h1,?_,?_⟩,Int.emod_nonneg _ (by decide),by omega⟩
  ·show 0<=IntKind.wrap .i64 (c.2.1+1);rw [wr (by omega) (by omega)];omega
  ·show IntKind.wrap .i64 (c.2.1+1)<=_;rw [wr (by omega) (by omega)];show c.2.1+1<=(c.1.length:Int)
   omega
 ·rw [au h,aj,ae];exact ⟨_,_,rfl,⟨h1,h2,h3⟩,Int.emod_nonneg _ (by decide),by omega⟩
theorem jk (c:Fv) (n:Int) (hc:jF c) (hn:n<=1000000):∃r c',fF (c,n)=some (r,c')/\jF c'/\0<=r/\(0<n->r<n)/\(n<=0->r=0):=by
 have e:fF (c,n)=Cv BIG (c,n):=rfl;rw [e,acG];by_cases h0:n<=0
 ·rw [ai h0];exact ⟨0,c,rfl,hc,by omega,by omega,fun _=>rfl⟩
 ·rw [au h0,aj];obtain ⟨r1,c1,k1,o1,a1,b1⟩:=ym c hc;by_cases h1:n<=256
  ·rw [ai h1,ah,k1,ae,au (by omega),aj];refine ⟨_,_,rfl,o1,Int.tmod_nonneg _ a1,fun _ => ?_,by omega⟩;show Int.tmod r1 n<n;exact Int.tmod_lt_of_pos _ (by omega)
  ·rw [au h1,aj,k1,ae];obtain ⟨r2,c2,k2,o2,a2,b2⟩:=ym c1 o1;obtain ⟨r3,c3,k3,o3,a3,b3⟩:=ym c2 o2;obtain ⟨r4,c4,k4,o4,a4,b4⟩:=ym c3 o3;simp only [k2,k3,k4,ae];rw [au (by omega),aj];refine ⟨_,_,rfl,o4,?_,fun _=>Int.tmod_lt_of_pos _ (by omega),by omega⟩;refine Int.tmod_nonneg _ ?_;rw [wr (n:=r1*16777216) (by omega) (by omega),wr (n:=r2*65536) (by omega) (by omega),wr (n:=r3*256) (by omega) (by omega),wr (n:=r1*16777216+r2*65536) (by omega) (by omega),wr (n:=r1*16777216+r2*65536+r3*256) (by omega) (by omega),wr (by omega) (by omega)];omega
def GrOk (n:Int) (es:List Ed):Prop:=2<=n/\n<=12/\oH es/\(∀e,e∈es->df n e=true)
theorem Ng {n:Int} {es:List Ed} (h:GrOk n es) (hl:es.length<=66):iV n es=true:=by
 unfold iV;rw [if_pos]
 ·rw [decide_eq_true_eq];omega
 ·intro i hi;have hy:=aO hi;cases i with
  | zero=>rw [ahH hy];exact h.2.2.2 _ (List.getElem_mem _)
  | succ j=>
   have hj:=aO (show j<es.length by omega);rw [ahI hy hj,h.2.2.2 _ (List.getElem_mem _),Bool.true_and];exact List.pairwise_iff_getElem.1 h.2.2.1 j (j+1) (by omega) (by omega) (by omega)
theorem Jj (n:Int) (es:List Ed) (e:Ed) (hl:es.length<=maxLen):rZ ((n,es),e)=some (decide (e∈es),()):=by
 show G7 BIG _=_;rw [agQ,wI _ _ hl];rfl
theorem UI (n:Int) (es:List Ed) (e:Ed) (hl:es.length<=maxLen):yj ((n,es),e)=some (decide (e∈es),()):=by
 show IW BIG _=_;rw [ahu,Ji _ _ hl];rfl
theorem akg (a:List Int) (ha:a.length<=1048576):∃c,Bq a=some (c,())/\jF c:=by
 have hm:maxLen=9223372036854775807:=by decide
 have e:Bq a=KC BIG a:=rfl;rw [e,ajk];have:=qa (F:=fun (self1:Int × Int->Option (Int)) (x0:Int × Int)=>
  Option.bind (bif decide (x0.2<(a.length:Int)) then
   some (decide (x0.2<(4000:Int)))
   else some false:Option (Bool)) fun x2=>
  bif x2 then
   bnd a.length x0.2 fun n3=>
   Option.bind a[n3]? fun y4=>
   self1 (bits .and .i64 (IntKind.wrap .i64 ((IntKind.wrap .i64 ((IntKind.wrap .i64 (x0.1*(131:Int)))+(IntKind.wrap .i64 (y4))))+(7:Int))) (1073741823:Int),IntKind.wrap .i64 (x0.2+(1:Int)))
  else some x0.1) (fun x=>∃i:Nat,x.2=i/\i<=a.length) (fun x=>a.length-x.2.toNat) (fun _ _=>True) (fun self x ⟨i,h1,h2⟩ hs => ?_) (n:=BIG) (x:=(IntKind.wrap .i64 ((13501:Int)+(a.length:Int)),0)) (by simp [BIG];omega) ⟨0,rfl,by omega⟩
 ·obtain ⟨b,hb,_⟩:=this;rw [hb];exact ⟨_,rfl,ha,Int.le_refl _,by simp⟩
 ·obtain ⟨z,j⟩:=x;simp only at h1;subst h1;by_cases h:i<a.length
  ·by_cases h':(i:Int)<4000
   ·simp only [show ((i:Int)<(a.length:Int)) from by omega,h',decide_true,ah,ae];rw [aB h,aO h,ae,bE (by omega)];exact hs _ ⟨i+1,rfl,h⟩ (by simp;omega)
   ·simp only [show ((i:Int)<(a.length:Int)) from by omega,h',decide_true,decide_false,ah,aj,ae];exact ⟨_,rfl,trivial⟩
  ·simp only [show ¬((i:Int)<(a.length:Int)) from by omega,decide_false,aj,ae];exact ⟨_,rfl,trivial⟩
def del (es:List Ed) (e:Ed):List Ed:=es.filter (fun y=>!decide (y=e))
theorem kR {es:List Ed} {e x:Ed}:x∈del es e↔x∈es/\x≠e:=by simp [del]
theorem an8 {es:List Ed} {e:Ed} (h:oH es):oH (del es e):=h.filter _
theorem GrOk.ins {n:Int} {es:List Ed} {e:Ed} (h:GrOk n es) (he:df n e=true):GrOk n (ins es e):=⟨h.1,h.2.1,Wn h.2.2.1,fun x hx=>by
 rcases jq.1 hx with rfl|hx
 ·exact he
 ·exact h.2.2.2 x hx⟩
theorem GrOk.del {n:Int} {es:List Ed} {e:Ed} (h:GrOk n es):GrOk n (del es e):=⟨h.1,h.2.1,an8 h.2.2.1,fun x hx=>h.2.2.2 x (kR.1 hx).1⟩
theorem apY (a:List Int):aaI a=some (decide ((1048576:Int)<(a.length:Int)),()):=apW BIG a
theorem oQ (c:Fv) (l:List Int) (hc:jF c) (h0:0<l.length) (hl:l.length<=1000000):∃b c',iO (c,l)=some (b,c')/\jF c':=by
 have e:iO (c,l)=wU BIG (c,l):=rfl;obtain ⟨r,c',k,o,a,b,_⟩:=jk c l.length hc (by omega);have b:=b (by omega);rw [e,YK,k,ae,bn a b,aO (by omega)];exact ⟨_,_,rfl,o⟩
theorem an9 (c:Fv) (hc:jF c):∃n c',N9 c=some (n,c')/\jF c'/\2<=n/\n<=12:=by
 have e:N9 c=VD BIG c:=rfl;obtain ⟨r,c',k,o,a,b,_⟩:=jk c 11 hc (by omega);have b:=b (by omega);rw [e,anO,k,ae,wr (by omega) (by omega)];exact ⟨_,_,rfl,o,by omega,by omega⟩
theorem akh (n:Int):KH n=some (if aU n 1 12 then (n,[],true) else (0,[],false),()):=by
 show KG BIG _=_;rw [ajm,bI,ae];cases aU n 1 12<;>rfl
theorem adD (a b:Int):Cz (a,b)=some (if aU a 1 3&&aU b 1 12 then (a,b,[],0,false,[],[],true) else (0,0,[],0,false,[],[],false),()):=by
 show Cy BIG _=_;rw [acJ,akh,bI];cases aU a 1 3<;>cases aU b 1 12<;>rfl
abbrev az:=Int × Int × Int × Bool
theorem aki (E:List az) (hE:E.length<=4294967295) {n:Int} {F:((Int × List (Int × Int)) × Int->Option (Int × List (Int × Int)))->(Int × List (Int × Int)) × Int->Option (Int × List (Int × Int))}
  (hF:∀self out (i:Nat) y,E[i]?=some y->F self ((n,out),(i:Int))=bif decide (out.length+1<=4294967296) then self ((n,out++[(y.1,y.2.1)]),((i+1:Nat):Int)) else none)
  (hE':∀self x,F self (x,(E.length:Int))=some x):aI BIG F ((n,[]),0)=some (n,E.map fun x=>(x.1,x.2.1)):=by
 rw [gQ E (by omega) (fun i (s:Int × List (Int × Int))=>s.1=n/\s.2.length=i) (fun s y=>(s.1,s.2++[(y.1,y.2.1)])) id ⟨rfl,rfl⟩ (fun i s y _ h=>⟨h.1,by simp [h.2]⟩)]
 ·have:∀(l:List az) (s:Int × List (Int × Int)),l.foldl (fun s y=>(s.1,s.2++[(y.1,y.2.1)])) s=(s.1,s.2++l.map fun x=>(x.1,x.2.1)):=by
   intro l;induction l with
   | nil=>intro s;simp
   | cons y l ih=>intro s;rw [List.foldl_cons,ih];simp
  rw [this];simp
 ·rintro self ⟨m,out⟩ i y hy ⟨rfl,h2⟩;simp only at h2;have hi:=(aS hy).1;rw [hF self out i y hy,ai (by omega),ah]
 ·intro self s _;exact hE' self s
theorem yn (n:Int) (E:List az) (hE:E.length<=1048576):jc (n,E)=some ((n,E.map fun x=>(x.1,x.2.1)),()):=by
 have hm:maxLen=9223372036854775807:=by decide
 show Iy BIG _=_;rw [ahl];dsimp only;rw [aki E (by omega)]
 ·rfl
 ·intro self out i y hy;have hi:=(aS hy).1;simp only [show ((i:Int)<(E.length:Int)) from by omega,decide_true,ah];rw [aB hi,hy,ae,bE (by omega)];rfl
 ·intro self x;simp
theorem yu (n:Int) (E:List az) (hE:E.length<=1048576):iZ (n,E)=some ((n,E.map fun x=>(x.1,x.2.1)),()):=by
 have hm:maxLen=9223372036854775807:=by decide
 show Gj BIG _=_;rw [agv];dsimp only;rw [aki E (by omega)]
 ·rfl
 ·intro self out i y hy;have hi:=(aS hy).1;simp only [show ((i:Int)<(E.length:Int)) from by omega,decide_true,ah];rw [aB hi,hy,ae,aB hi,hy,ae,bE (by omega)];rfl
 ·intro self x;simp
theorem al5 (x0 x1:Int) (x2:List az) (x3:Int) (x4:Bool) (x5:List Ed) (x6:List Int) (hE:x2.length<=1048576):I6 (x0,x1,x2,x3,x4,x5,x6)=some (x2.map fun x=>(x.1,x.2.1),()):=by
 show Ry BIG _=_;rw [al1];dsimp only;rw [yn _ _ hE];rfl
theorem Wp (x0:Int) (x1:List Int) (x2:List Ed) (x3:List (List Int)) (x4:List Int) (x5 x6 x7 x8 x9 x10 x11:Int) (x12:List Ed) (x13:Int) (x14:List (Int × Int × Int × Int × Int × Int)):qG (x0,x1,x2,x3,x4,x5,x6,x7,x8,x9,x10,x11,x12,x13,x14)=some (!decide (x9=0),()):=anY BIG _
theorem Wq (x0:Int) (x1:List Int) (x2:List Ed) (x3:List (List Int)) (x4:List Int) (x5 x6 x7 x8 x9 x10 x11:Int) (x12:List Ed) (x13:Int) (x14:List (Int × Int × Int × Int × Int × Int)):qB (x0,x1,x2,x3,x4,x5,x6,x7,x8,x9,x10,x11,x12,x13,x14)=some (!decide (x9=0),()):=anQ BIG _
theorem rangeLoop {S B:Type} (n:Nat) (hl:n<18446744073709551616) {F:(S × Int->Option B)->S × Int->Option B} (I:Nat->S->Prop) (st:Nat->S->S) (R:S->B) {s0:S} (h0:I 0 s0)
  (hI:∀i s,i<n->I i s->I (i+1) (st i s)) (hF:∀self s (i:Nat),i<n->I i s->F self (s,(i:Int))=self (st i s,((i+1:Nat):Int)))
  (hE:∀self s,I n s->F self (s,(n:Int))=some (R s)):aI BIG F (s0,0)=some (R ((List.range n).foldl (fun s i=>st i s) s0)):=by
 have hr:∀{i y:Nat},(List.range n)[i]?=some y->i<n/\y=i:=by
  intro i y h;have hi:=(aS h).1;rw [List.length_range] at hi;rw [List.getElem?_range hi] at h;cases h;exact ⟨hi,rfl⟩
 refine gQ (List.range n) (by rw [List.length_range];exact hl) I (fun s i=>st i s) R h0 (fun i s y hy hi => ?_) (fun self s i y hy hi => ?_) (fun self s hs => ?_)
 ·obtain ⟨h1,rfl⟩:=hr hy;exact hI _ _ h1 hi
 ·obtain ⟨h1,rfl⟩:=hr hy;exact hF _ _ _ h1 hi
 ·rw [List.length_range] at hs ⊢;exact hE _ _ hs
theorem akj {α:Type} (f:Nat->α) (n:Nat) (s:List α):(List.range n).foldl (fun s i=>s++[f i]) s=s++(List.range n).map f:=by
 induction n with
 | zero=>simp
 | succ n ih=>rw [List.range_succ,List.foldl_append,ih];simp
theorem abN (n:Nat) (hn:n<=1000000) {F:(List Int × Int->Option (List Int))->List Int × Int->Option (List Int)}
  (hF:∀self out (i:Nat),i<n->out.length=i->F self (out,(i:Int))=self (out++[(i:Int)],((i+1:Nat):Int)))
  (hE:∀self out,F self (out,(n:Int))=some out):aI BIG F ([],0)=some (qb n):=by
 rw [rangeLoop n (by omega) (fun i (s:List Int)=>s.length=i) (fun i s=>s++[(i:Int)]) id rfl (fun i s _ h=>by simp [h]) (fun self s i hi h=>hF self s i hi h) (fun self s _=>hE self s),akj];rfl
theorem RN (n:Nat) (hn:n<=1000000):Ad (n:Int)=some (qb n,()):=by
 have hm:maxLen=9223372036854775807:=by decide
 show Ra BIG _=_;rw [alO,abN n hn]
 ·rfl
 ·intro self out i hi hl;simp only [show ((i:Int)<(n:Int)) from by omega,decide_true,ah];rw [ai (by simp;omega),ah,bE (by omega)]
 ·intro self out;simp
theorem ahJ (E:List (Int × Int)) (n:Nat):∀l:List Int,(List.range n).foldl (fun s _=>lrnd E s) l=Jg E n l:=by
 have:∀(m:Nat) (l:List Int),Jg E (m+1) l=lrnd E (Jg E m l):=by
  intro m;induction m with
  | zero=>intro l;rfl
  | succ m ih=>intro l;show Jg E (m+1) (lrnd E l)=_;rw [ih];rfl
 induction n with
 | zero=>intro l;rfl
 | succ n ih=>intro l;rw [List.range_succ,List.foldl_append,ih,this];rfl
theorem AY (n:Nat) (E:List (Int × Int)) (hn:n<=12) (hE:kz n E) (hl:E.length<=4611686018427387904):mP ((n:Int),E)=some (labs n E,()):=by
 have hm:maxLen=9223372036854775807:=by decide
 show zf BIG _=_;rw [aaL,abN n (by omega)]
 ·rw [ae,rangeLoop n (by omega) (fun i (s:List Int)=>s.length=n) (fun _ s=>lrnd E s) id (qc n) (fun i s _ h=>by rw [abL];exact h)]
  ·rw [ahJ,ahG hE];rfl
  ·intro self s i hi hs;simp only [show ((i:Int)<(n:Int)) from by omega,decide_true,ah];rw [gQ E (by omega) (fun _ (s:List Int)=>s.length=n) rlE id hs (fun i s y _ h=>by rw [afb];exact h)]
   ·rw [ae,bE (by omega)];rfl
   ·intro self s i y hy hs;have hi:=(aS hy).1;obtain ⟨h1,h2,h3,h4⟩:=hE y (List.mem_of_getElem? hy);have i1:y.1.toNat<s.length:=by omega
    have i2:y.2.toNat<s.length:=by omega
    simp only [show ((i:Int)<(E.length:Int)) from by omega,decide_true,ah];rw [bE (by omega),aB hi,hy,ae,bn h1 (by omega),getD_at i1,ae,aB hi,hy,ae,bn h3 (by omega),getD_at i2,ae];unfold rlE;simp only;by_cases c1:s.getD y.1.toNat 0<s.getD y.2.toNat 0
    ·rw [ai c1,ah,aB hi,hy,ae,bn h3 (by omega),getD_at i2,ae,ae,au (by omega),aj,if_pos c1,if_neg (by omega)];rfl
    ·rw [au c1,aj,ae,if_neg c1];by_cases c2:s.getD y.2.toNat 0<s.getD y.1.toNat 0
     ·rw [ai c2,ah,aB hi,hy,ae,bn h1 (by omega),getD_at i1,ae,if_pos c2];rfl
     ·rw [au c2,aj,if_neg c2];rfl
   ·intro self s _;simp
  ·intro self s _;simp
 ·intro self out i hi hl;simp only [show ((i:Int)<(n:Int)) from by omega,decide_true,ah];rw [ai (by simp;omega),ah,bE (by omega)]
 ·intro self out;simp
abbrev Hd:=Int × List Int × List (Int × Int) × List (List Int) × List Int × Int × Int × Int × Int × Int × Int × Int × List (Int × Int) × Int × List (Int × Int × Int × Int × Int × Int)
def Nh (n k:Nat):List Int:=(List.range n).map fun (i:Nat)=>1+Int.tmod (i:Int) k
def hdN (n k:Nat):Hd:=((n:Int),Nh n k,[],List.replicate k (qb n),List.replicate k 0,0,0,0,0,0,0,0,[],0,[])
theorem al6 (f:Nat->Int) (n:Nat) (s:Hd):(List.range n).foldl (fun (s:Hd) i=>(s.1,s.2.1++[f i],s.2.2)) s=(s.1,s.2.1++(List.range n).map f,s.2.2):=by
 induction n with
 | zero=>simp
 | succ n ih=>rw [List.range_succ,List.foldl_append,ih];simp
theorem al7 (L:List Int) (n:Nat) (s:Hd):(List.range n).foldl (fun (s:Hd) i=>(s.1,s.2.1,s.2.2.1,s.2.2.2.1++[L],s.2.2.2.2)) s=(s.1,s.2.1,s.2.2.1,s.2.2.2.1++List.replicate n L,s.2.2.2.2):=by
 induction n with
 | zero=>simp
 | succ n ih=>rw [List.range_succ,List.foldl_append,ih,List.replicate_succ'];simp
theorem apZ {i k:Nat} (hk:1<=k) (hk':k<=3):0<=Int.tmod (i:Int) k/\Int.tmod (i:Int) k<3:=by
 rw [Int.tmod_eq_emod_of_nonneg (by omega)];have h1:=Int.emod_nonneg (i:Int) (show (k:Int)≠0 from by omega);have h2:=Int.emod_lt_of_pos (i:Int) (show (0:Int)<(k:Int) from by omega);omega
def fD (n:Int) (es:List Ed):Bool:=aU n 1 12&&iV n es
theorem UJ (n:Int) (es:List Ed) (hl:es.length<=1048576):yf (n,es)=some (fD n es,()):=by
 show IB BIG _=_;rw [ahn,gY,yl n es hl];unfold fD;cases aU n 1 12<;>rfl
theorem tH (n:Int) (es:List Ed) (hl:es.length<=1048576):nC (n,es)=some (fD n es,()):=by
 show Gs BIG _=_;rw [agz,bI,vN n es hl];unfold fD;cases aU n 1 12<;>rfl
theorem ik {n:Int} {es:List Ed} (h:iV n es=true):(∀e,e∈es->df n e=true)/\oH es/\es.length<=66:=by
 have hl:=jJ h;unfold iV at h;split at h;case isFalse=>cases h
 case isTrue hp=>
 have hc:∀i (h:i+1<es.length),df n es[i+1]=true/\lsB es[i] es[i+1]=true:=by
  intro i hi;have:=hp (i+1) hi;rw [ahI (aO hi) (aO (by omega)),aP] at this;exact this
 have h0:∀i (h:i<es.length),df n es[i]=true:=by
  intro i hi;cases i with
  | zero=>have:=hp 0 hi;rwa [ahH (aO hi)] at this
  | succ i=>exact (hc i hi).1
 refine ⟨fun e he => ?_,List.pairwise_iff_getElem.2 fun i j hi hj hij => ?_,hl⟩
 ·obtain ⟨i,hi,rfl⟩:=List.getElem_of_mem he;exact h0 i hi
 ·have:∀d (h:i+1+d<es.length),lsB es[i] es[i+1+d]=true:=by
   intro d;induction d with
   | zero=>intro h;exact (hc i h).2
   | succ d ih=>intro h;exact wH (ih (by omega)) (hc (i+1+d) h).2
  have:=this (j-(i+1)) (by omega);simpa [show i+1+(j-(i+1))=j from by omega] using this
theorem dF {n:Nat} {e:Ed} (h:df (n:Int) e=true):0<=e.1/\e.1<n/\0<=e.2/\e.2<n/\e.1<e.2:=by
 simp only [df,aP,aQ,decide_eq_true_eq] at h;omega
theorem ap0 {n:Nat} {es:List Ed} (h:iV (n:Int) es=true):kz n es:=fun e he=>by
 have:=dF ((ik h).1 e he)
 exact ⟨this.1,this.2.1,this.2.2.1,this.2.2.2.1⟩
theorem an_ {α:Type} (a:List α) (f:α->α) (hl:a.length<18446744073709551616) {F:(List α × Int->Option (List α))->List α × Int->Option (List α)}
  (hF:∀self out (i:Nat) y,out.length=a.length->out[i]?=some y->a[i]?=some y->F self (out,(i:Int))=self (out.set i (f y),((i+1:Nat):Int)))
  (hE:∀self out,out.length=a.length->F self (out,(a.length:Int))=some out):aI BIG F (a,0)=some (a.map f):=by
 have:=ig (F:=F) (fun x=>∃i:Nat,x.2=i/\i<=a.length/\x.1=(a.map f).take i++a.drop i) (fun x=>a.length-x.2.toNat) (fun _=>a.map f) (fun self x ⟨i,h1,h2,h3⟩ hs => ?_) (n:=BIG) (x:=(a,0)) (by simp;exact hl) ⟨0,rfl,by simp,by simp⟩
 ·exact this
 ·obtain ⟨out,j⟩:=x;simp only at h1 h3;subst h1;have hlen:out.length=a.length:=by rw [h3];simp;omega
  by_cases hi:i<a.length
  ·have hy:=aO hi;have ho:out[i]?=some a[i]:=by
    rw [h3,List.getElem?_append_right (by simp;omega)];simp [Nat.min_eq_left (show i<=a.length from by omega)]
   rw [hF self out i a[i] hlen ho hy];have e:=YU (a:=a) (t:=a.map f) (i:=i) (z:=f a[i]) (by simp) hi (by simp [hi]);rw [<-h3] at e;exact hs _ ⟨i+1,rfl,hi,e⟩ (by simp;omega)
  ·have:i=a.length:=by omega
   subst this;rw [hE self out hlen,h3];simp [List.take_of_length_le]
theorem set_self {α:Type} {l:List α} {i:Nat} {y:α} (h:l[i]?=some y):l.set i y=l:=by
 apply List.ext_getElem?;intro j;rw [List.getElem?_set];split
 ·subst j;have:=(aS h).1;simp [this,h.symm]
 ·rfl
theorem Jk (l:List Int) (a b:Int) (ha:0<=a) (ha':a<l.length) (hb:0<=b) (hb':b<l.length) (hl:l.length<=1048576) :
  uM (l,a,b)=some (!decide (l.getD a.toNat 0=l.getD b.toNat 0),unE l (a,b)):=by
 have hm:maxLen=9223372036854775807:=by decide
 show Re BIG _=_;rw [alQ,bn ha ha',getD_at (by omega),ae,bn hb hb',getD_at (by omega),ae];unfold unE;simp only;generalize l.getD a.toNat 0=x;generalize l.getD b.toNat 0=y;by_cases h:x=y
 ·subst h;rw [ai rfl,ah,abK];rfl
 ·rw [au h,aj,an_ l (fun z=>if z=(if y > x then y else x) then (if y<x then y else x) else z) (by omega)]
  ·rfl
  ·intro self out i z hlo ho hz;have hi:=(aS hz).1;simp only [show ((i:Int)<(l.length:Int)) from by omega,decide_true,ah];rw [aB (by omega),ho,ae,bE (by omega)];by_cases hc:z=(if y > x then y else x)
   ·rw [ai hc,ah,aB (by omega),ho,ae,if_pos hc];rfl
   ·rw [au hc,aj,if_neg hc,set_self ho];rfl
  ·intro self out hlo;simp
theorem akk (n:Nat) (es:List Ed) (hl:es.length<=1048576):BK ((n:Int),es)=some (if fD n es then labs n es else [],()):=by
 show BJ BIG _=_;rw [X6,tH _ _ hl,ae];cases hg:fD n es with
 | false=>rfl
 | true=>
  simp only [fD,aP,aQ] at hg;simp only [aZ,aj];rw [AY n es (by omega) (ap0 hg.2) (by omega)];rfl
def tgB (n:Int) (es:List Ed) (a b:Int):Bool:=fD n es&&(aU a 0 (n-1)&&(aU b 0 (n-1)&&decide ((labs n.toNat es).getD a.toNat 0=(labs n.toNat es).getD b.toNat 0)))
theorem adE (n:Int) (es:List Ed) (a b:Int) (hl:es.length<=1048576):Dr ((n,es),a,b)=some (tgB n es a b,()):=by
 show Dq BIG _=_;rw [ac8];unfold tgB;have hs:BK (n,es)=BJ BIG (n,es):=rfl;cases hg:fD n es with
 | false=>
  rw [hs,X6,tH _ _ hl,hg];simp only [ae,dM,ah,List.length_nil,bI];rw [wr (by simp) (by simp)];have:aU a 0 (((0:Nat):Int)-1)=false:=by
   cases h:aU a 0 (((0:Nat):Int)-1) with
   | false=>rfl
   | true=>rw [aQ] at h;omega
  rw [this];rfl
 | true=>
  have hg':=hg;simp only [fD,aP,aQ] at hg';obtain ⟨N,rfl⟩:∃N:Nat,n=N:=⟨n.toNat,by omega⟩
  rw [akk N es hl,hg,if_pos rfl,ae];simp only [bV,bI,ae];rw [wr (by omega) (by omega)];cases ha:aU a 0 ((N:Int)-1) with
  | false=>rfl
  | true=>
   cases hb:aU b 0 ((N:Int)-1) with
   | false=>rfl
   | true=>
    rw [aQ] at ha hb;simp only [ah,ae];have h1:a.toNat<(labs N es).length:=by rw [bV];omega
    have h2:b.toNat<(labs N es).length:=by rw [bV];omega
    rw [bn ha.1 (by omega),getD_at h1,ae,bn hb.1 (by omega),getD_at h2,ae];rfl
def AZ (n:Int) (es:List Ed) (e:Ed):Int × List Ed × Bool:=if fD n es&&(df n e && !decide (e∈es)) then (n,ins es e,true) else (0,[],false)
def Ni (n:Int) (es:List Ed) (e:Ed):Int × List Ed × Bool:=if fD n es&&decide (e∈es) then (n,del es e,true) else (0,[],false)
theorem ahK (n:Int) (es:List Ed) (e:Ed) (hl:es.length<=1048576):I_ ((n,es),e)=some (AZ n es e,()):=by
 have hm:maxLen=9223372036854775807:=by decide
 show I9 BIG _=_;rw [ahy,UJ n es hl,M_,UI n es e (by omega),Ew es e hl];unfold AZ;cases hg:fD n es with
 | false=>rfl
 | true=>
  cases he:df n e with
  | false=>rfl
  | true=>
   by_cases hin:e∈es
   ·rw [ai hin];rfl
   ·simp only [fD,aP] at hg;rw [au hin,Wo (ik hg.2).2.1 hin];rfl
theorem UK (n:Int) (es:List Ed) (e:Ed) (hl:es.length<=1048576):xW ((n,es),e)=some (AZ n es e,()):=by
 have hm:maxLen=9223372036854775807:=by decide
 show Ha BIG _=_;rw [agS,tH n es hl,BX,Jj n es e (by omega),Nf es e hl];unfold AZ;cases hg:fD n es with
 | false=>rfl
 | true=>
  cases he:df n e with
  | false=>rfl
  | true=>cases decide (e∈es)<;>rfl
theorem xe (es:List Ed) (e:Ed) (hl:es.length<=1048576):lF (es,e)=some (del es e,()):=by
 have hm:maxLen=9223372036854775807:=by decide
 show wR BIG _=_;rw [YH,gQ es (by omega) (fun i (c:List Ed)=>c.length<=i) (fun c y=>if (!decide (y=e)) then c++[y] else c) id (by simp) (fun i c y _ (h:c.length<=i)=>by show List.length (if _ then _ else _)<=_;split<;>(try simp)<;>omega)]
 ·rw [jC];rfl
 ·intro self c i y hy (hc:c.length<=i);have hi:=(aS hy).1;simp only [show ((i:Int)<(es.length:Int)) from by omega,decide_true,ah];rw [aB hi,hy,ae,bE (by omega)];have hd:(decide (y.1=e.1)&&(decide (y.2=e.2)&&true))=decide (y=e):=by
   obtain ⟨y1,y2⟩:=y;obtain ⟨e1,e2⟩:=e;by_cases h1:y1=e1<;>by_cases h2:y2=e2<;>simp [h1,h2]
  rw [hd];cases decide (y=e) with
  | true=>simp
  | false=>simp [aB hi,hy,show c.length+1<=4294967296 from by omega]
 ·intro self c hc;simp
theorem Fx (es:List Ed) (e:Ed) (hl:es.length<=1048576):nH (es,e)=some (del es e,()):=by
 have hm:maxLen=9223372036854775807:=by decide
 show uU BIG _=_;rw [V4,gQ es (by omega) (fun i (c:List Ed)=>c.length<=i) (fun c y=>if (!decide (y=e)) then c++[y] else c) id (by simp) (fun i c y _ (h:c.length<=i)=>by show List.length (if _ then _ else _)<=_;split<;>(try simp)<;>omega)]
 ·rw [jC];rfl
 ·intro self c i y hy (hc:c.length<=i);have hi:=(aS hy).1;simp only [show ((i:Int)<(es.length:Int)) from by omega,decide_true,ah];rw [aB hi,hy,ae,bE (by omega)];have hd:(decide (y.1=e.1)&&(decide (y.2=e.2)&&true))=decide (y=e):=by
   obtain ⟨y1,y2⟩:=y;obtain ⟨e1,e2⟩:=e;by_cases h1:y1=e1<;>by_cases h2:y2=e2<;>simp [h1,h2]
  rw [hd];cases decide (y=e) with
  | true=>simp
  | false=>simp [show c.length+1<=4294967296 from by omega]
 ·intro self c hc;simp
theorem adF (n:Int) (es:List Ed) (e:Ed) (hl:es.length<=1048576):Dw ((n,es),e)=some (Ni n es e,()):=by
 have hm:maxLen=9223372036854775807:=by decide
 show Dv BIG _=_;rw [ac_,tH n es hl,Jj n es e (by omega),xe es e hl];unfold Ni;cases fD n es<;>cases decide (e∈es)<;>rfl
def dC (a b:Int):Ed:=if a<b then (a,b) else (b,a)
theorem akm (i o a b:Int):MJ (i,o,a,b)=some (dC a b,()):=by
 show MI BIG _=_;rw [aj2];unfold dC;dsimp only;by_cases h:a<b
 ·rw [if_neg (by omega),if_pos (by omega),if_pos h]
 ·rw [if_neg h];by_cases h':b<a
  ·rw [if_pos h',if_neg (by omega)]
  ·rw [if_neg h',if_neg (by omega),show a=b from by omega]
theorem UL (i o a b:Int):sN (i,o,a,b)=some (dC a b,()):=by
 show H7 BIG _=_;rw [ag6];unfold dC;dsimp only;by_cases h:a<b
 ·rw [ai h,ah,if_pos h]
 ·rw [au h,aj,if_neg h]
theorem A7 (es:List Ed) (hl:es.length<=1048576):mU es=some (es,()):=by
 show Ac BIG _=_;rw [abf,ai (by omega)];rfl
theorem abO (b:Bool):Io b=some (if b then 1 else 2,()):=by
 show Ri BIG _=_;rw [alS];cases b<;>rfl
def lG (n:Int) (es:List Ed) (o a b:Int):Int × List Ed × Int:=
 if aU o 1 4&&(decide (0<=a)&&decide (a<n)) then
  if o=4 then (n,es,if aU b 1 3 then 1 else 3)
  else if (decide (0<=b)&&decide (b<n)) && !(decide (a=b) && !decide (o=3)) then
   if o=3 then (n,es,if tgB n es a b then 1 else 2)
   else
    let r:=if o=2 then Ni n es (dC a b) else AZ n es (dC a b)
    if r.2.2 then (r.1,r.2.1,1) else (n,es,2)
  else (n,es,3)
 else (n,es,3)
theorem abP (n:Int) (es:List Ed) (i o a b:Int) (hl:es.length<=1048576):H9 ((n,es),i,o,a,b)=some (lG n es o a b,()):=by
 show QY BIG _=_;rw [alI];dsimp only;rw [ai (show 0+es.length<=4294967296 from by omega),ah,bI,List.nil_append];simp only [ae];unfold lG;cases ho:aU o 1 4 with
 | false=>rfl
 | true=>
  rw [aQ] at ho;by_cases h1:0<=a
  ·by_cases h2:a<n
   ·simp only [h1,h2,decide_true,aZ,ah,aj,ae,Bool.and_self,if_true];by_cases h4:o=4
    ·rw [ai h4,if_pos h4,ah,bI,ae];cases aU b 1 3<;>rfl
    ·rw [au h4,if_neg h4,aj];by_cases h5:0<=b
     ·by_cases h6:b<n
      ·simp only [h5,h6,decide_true,aZ,ah,aj,Bool.true_and];by_cases h3:o=3
       ·subst h3;simp only [decide_true,aZ,Bool.and_false,dM,if_true,ah];rw [adE n es a b hl];cases decide (a=b)<;>simp only [ah,aj,ae]<;>cases tgB n es a b<;>rfl
       ·simp only [h3,decide_false,dM,Bool.and_true,aj,if_false];by_cases hab:a=b
        ·rw [ai hab];rfl
        ·rw [au hab];simp only [aj,ae,dM,if_true,UL,UK n es _ hl,adF n es _ hl];by_cases h2':o=2
         ·rw [ai h2',if_pos h2',ah,ae];cases h:(Ni n es (dC a b)).2.2<;>simp [h]
         ·rw [au h2',if_neg h2',aj,ae];cases h:(AZ n es (dC a b)).2.2<;>simp [h]
      ·simp only [h5,h6,decide_true,decide_false,dM,ah,ae,Bool.and_false,Bool.false_and,if_false,Bool.false_eq_true]
     ·simp only [h5,decide_false,aj,ae,ah,Bool.false_and,if_false,Bool.false_eq_true]
   ·simp only [h1,h2,decide_true,decide_false,aZ,dM,ah,aj,ae,Bool.and_false,if_false,Bool.false_eq_true]
  ·simp only [h1,decide_false,aZ,ah,aj,ae,Bool.and_false,Bool.false_and,if_false,Bool.false_eq_true]
theorem aqD {α S T X B:Type} (a:List α) (hl:a.length<18446744073709551616) {F:(X->Option (T ⊕ B))->X->Option (T ⊕ B)} (mk:S->Int->X) (I:Nat->S->Prop) (st:S->α->Option S) (R:S->T) (b:B) {s0:S} (h0:I 0 s0)
  (hI:∀i s s' y,a[i]?=some y->I i s->st s y=some s'->I (i+1) s') (hF:∀self s (i:Nat) y,a[i]?=some y->I i s->F self (mk s (i:Int))=match st s y with|some s'=>self (mk s' ((i+1:Nat):Int))|none=>some (.inr b))
  (hE:∀self s,I a.length s->F self (mk s (a.length:Int))=some (.inl (R s))):aI BIG F (mk s0 0)=some (match fM st s0 a with|some s=>.inl (R s)|none=>.inr b):=by
 have key:∀(k n i:Nat) (s:S),a.length-i<=k->k<n->i<=a.length->I i s->it F n (mk s (i:Int))=some (match fM st s (a.drop i) with|some s=>.inl (R s)|none=>.inr b):=by
  intro k;induction k with
  | zero=>
   intro n i s hk hn hi hs;obtain ⟨m,rfl⟩:∃m,n=m+1:=⟨n-1,by omega⟩
   have:i=a.length:=by omega
   subst this;show F (it F m) _=_;rw [hE _ _ hs,List.drop_length];rfl
  | succ k ih=>
   intro n i s hk hn hi hs;obtain ⟨m,rfl⟩:∃m,n=m+1:=⟨n-1,by omega⟩
   show F (it F m) _=_;by_cases hi':i<a.length
   ·have hy:=aO hi';rw [hF _ _ _ _ hy hs,List.drop_eq_getElem_cons hi'];cases hst:st s a[i] with
    | none=>simp only [fM,hst,Option.bind_none]
    | some s'=>
     simp only;rw [ih m (i+1) _ (by omega) (by omega) hi' (hI _ _ _ _ hy hs hst)];simp only [fM,hst,ae]
   ·have:i=a.length:=by omega
    subst this;rw [hE _ _ hs,List.drop_length];rfl
 have:=key a.length BIG 0 s0 (by omega) (by simpa [BIG] using hl) (by omega) h0;show it F BIG (mk s0 0)=_;simpa using this
def by8 (n:Int):UInt8:=UInt8.ofNat (n % 256).toNat
def vF:Nat->Nat->List UInt8
 | 0,v=>[by8 (v:Int)]
 | k+1,v=>if v<=127 then [by8 (v:Int)] else by8 ((v % 128+128:Nat):Int)::vF k (v / 128)
def vB (v:Nat):List UInt8:=vF 9 v
def e2 (e:Ed):List UInt8:=[by8 e.1,by8 e.2]
theorem aff {n:Int} {a:An} (h:lq n a=true):1<=n/\n<=12/\1<=a.1/\a.1<=100000/\iV n a.2.2.1=true/\(a.2.2.2.length:Int)=n/\qd n a.2.2.2=true:=by
 unfold lq at h;simp only [aP,aQ] at h;obtain ⟨hn,h1,h2,h3⟩:=h;have h3':=h3;unfold qd at h3;split at h3
 ·rename_i hl;exact ⟨hn.1,hn.2,h1.1,h1.2,h2,hl,h3'⟩
 ·cases h3
def dec:Nat->List UInt8->Option (Nat × Nat)
 | 0,_=>none
 | _+1,[]=>none
 | k+1,b::l=>if b.toNat<128 then some (b.toNat,1) else (dec k l).map fun r=>(b.toNat-128+128*r.1,r.2+1)
def rdV (l:List UInt8):Option (Nat × Nat):=match dec 5 l with
 | some (v,m)=>if v<=1000000000/\vB v=l.take m then some (v,m) else none
 | none=>none
abbrev St:=Nat × Bool
def nm (T:List UInt8) (s:St):Int × St:=
 if s.2 then (0,(s.1,true)) else match rdV (T.drop s.1) with
 | some (v,m)=>((v:Int),(s.1+m,false))
 | none=>(0,(s.1,true))
def on (T:List UInt8) (s:St):Int × St:=
 if s.2 then (0,(s.1,true)) else match T[s.1]? with
 | some b=>((b.toNat:Int),(s.1+1,false))
 | none=>(0,(s.1,true))
def edF (T:List UInt8):Nat->St->List Ed->St × List Ed
 | 0,s,out=>(s,out)
 | k+1,s,out=>if s.2 then (s,out) else edF T k (on T (on T s).2).2 (out++[((on T s).1,(on T (on T s).2).1)])
def q0 (T:List UInt8):Int × St:=nm T (0,false)
def q1 (T:List UInt8):Int × St:=on T (q0 T).2
def q2 (T:List UInt8):Int × St:=nm T (q1 T).2
def q3 (T:List UInt8) (K:Nat):St × List Ed:=edF T K (nm T (q2 T).2).2 []
def lbF (T:List UInt8):Nat->St->List Int->St × List Int
 | 0,s,out=>(s,out)
 | k+1,s,out=>lbF T k (on T s).2 (out++[(on T s).1])
def q4 (T:List UInt8) (K:Nat):St × List Ed:=edF T K (nm T (q1 T).2).2 []
def q5 (T:List UInt8) (K N:Nat):St × List Int:=lbF T N (q4 T K).1 []
theorem BZ (a b:List Ed) (ha:a.length<=maxLen):mf (a,b)=some (decide (a=b),()):=by
 show rV BIG _=_;rw [TD];by_cases hl:a.length=b.length
 ·rw [ai (by omega),aZ,aj,aka a b ha hl false]
  ·by_cases h:a=b<;>simp [h]
  ·intro self i x y hx hy;have hi:=(aS hx).1;simp only [show ((i:Int)<(a.length:Int)) from by omega,decide_true,ah];rw [aB hi,hx,ae,aB (by omega),hy,ae,bE (by omega)];obtain ⟨x1,x2⟩:=x;obtain ⟨y1,y2⟩:=y;by_cases h1:x1=y1<;>by_cases h2:x2=y2<;>simp [h1,h2]
  ·intro self;simp
 ·rw [au (by omega),dM,ah,au (fun h=>hl (by rw [h]))]
theorem uX (a b:List Int) (ha:a.length<=maxLen):nE (a,b)=some (decide (a=b),()):=by
 show nD BIG _=_;rw [E_];by_cases hl:a.length=b.length
 ·rw [ai (by omega),aZ,aj,aka a b ha hl false]
  ·by_cases h:a=b<;>simp [h]
  ·intro self i x y hx hy;have hi:=(aS hx).1;simp only [show ((i:Int)<(a.length:Int)) from by omega,decide_true,ah];rw [aB hi,hx,ae,aB (by omega),hy,ae,bE (by omega)];by_cases h1:x=y<;>simp [h1]
  ·intro self;simp
 ·rw [au (by omega),dM,ah,au (fun h=>hl (by rw [h]))]
def UM (a:An):Bool:=decide (a.1=0)&&(!a.2.1&&(decide (a.2.2.1.length=0)&&decide (a.2.2.2.length=0)))
def blO (o:Fq):Bool:=decide (o.1=0)&&(decide (o.2.1=0)&&(decide (o.2.2.1.length=0)&&decide (o.2.2.2=0)))
def blQ (a b c d:Int):Bool:=decide (a=0)&&(decide (b=0)&&(decide (c=0)&&decide (d=0)))
theorem abQ {α:Type} (l:List α):decide ((l.length:Int)=0)=decide (l.length=0):=decide_eq_decide.2 (by omega)
theorem adG (a:An):Ef a=some (UM a,()):=by
 show Ee BIG _=_;rw [adq,abQ,abQ];unfold UM;cases decide (a.1=0)<;>cases a.2.1<;>cases decide (a.2.2.1.length=0)<;>rfl
theorem Ws {α:Type} [DecidableEq α] (l:List α):decide (l=[])=decide (l.length=0):=decide_eq_decide.2 List.length_eq_zero_iff.symm
theorem adH (a:An) (h1:a.2.2.1.length<=maxLen) (h2:a.2.2.2.length<=maxLen):CV a=some (UM a,()):=by
 show CU BIG _=_;rw [acV];have:pG (a,((0:Int),false,[],[]))=pF BIG (a,((0:Int),false,[],[])):=rfl;rw [this,QN];dsimp only;rw [BZ _ _ h1,uX _ _ h2,Ws,Ws];unfold UM;cases decide (a.1=0)<;>cases a.2.1<;>cases decide (a.2.2.1.length=0)<;>rfl
theorem am7 (a b c d:Int):(decide (a=0)&&(decide (b=0)&&(decide (c=0)&&(decide (d=0)&&true))))=blQ a b c d:=by simp [blQ]
theorem ako {α:Type} (a:List α) (hl:a.length<18446744073709551616) (p:α->Bool) {F:(Int->Option (Unit ⊕ Int))->Int->Option (Unit ⊕ Int)}
  (hF:∀self (i:Nat) y,a[i]?=some y->F self (i:Int)=if p y then some (.inr (i:Int)) else self ((i+1:Nat):Int))
  (hE:∀self,F self (a.length:Int)=some (.inl ())):aI BIG F 0=some (if a.findIdx p<a.length then .inr (a.findIdx p:Int) else .inl ()):=by
 refine ig (fun (x:Int)=>∃i:Nat,x=(i:Int)/\i<=a.length/\∀j (hj:j<a.length),j<i->p a[j]=false) (fun x=>a.length-x.toNat) (fun _=>_) (fun self x ⟨i,h1,h2,h3⟩ hs => ?_) (n:=BIG) (x:=0) (by simp;exact hl) ⟨0,rfl,by simp,fun j _ hj=>by omega⟩;subst h1;by_cases hi:i<a.length
 ·rw [hF self i a[i] (aO hi)];cases hp:p a[i] with
  | true=>
   have:a.findIdx p=i:=(List.findIdx_eq hi).2 ⟨hp,fun j hj=>h3 j (by omega) hj⟩;rw [if_pos rfl,this,if_pos hi]
  | false=>
   rw [if_neg (by simp)];exact hs _ ⟨i+1,rfl,hi,fun j hj hji=>by
    by_cases hj':j=i
    ·subst hj';exact hp
    ·exact h3 j hj (by omega)⟩ (by simp;omega)
 ·have he:i=a.length:=by omega
  subst he;rw [hE,if_neg];intro h;have h4:=List.findIdx_lt_length.1 h;obtain ⟨x,hx,hpx⟩:=h4;obtain ⟨j,hj,rfl⟩:=List.getElem_of_mem hx;rw [h3 j hj hj] at hpx;cases hpx
def sA (l:List Sd) (k:Int):Int:=if l.findIdx (fun y=>decide (y.1=k))<l.length then (l.findIdx (fun y=>decide (y.1=k)):Int) else -1
theorem B_ (l:List Sd) (k:Int) (hl:l.length<=1048576):qF (l,k)=some (sA l k,()):=by
 have hm:maxLen=9223372036854775807:=by decide
 show Mc BIG _=_;rw [ajQ];rw [ako l (by omega) (fun y=>decide (y.1=k))]
 ·unfold sA;split<;>rfl
 ·intro self i y hy;have hi:=(aS hy).1;simp only [show ((i:Int)<(l.length:Int)) from by omega,decide_true,ah];rw [aB hi,hy,ae,bE (by omega)];cases decide (y.1=k)<;>rfl
 ·intro self;simp
theorem Jl (x0:Int) (x1:List Int) (x2:List Ed) (x3:List (List Int)) (x4:List Int) (x5 x6 x7 x8 x9 x10 x11:Int) (x12:List Ed) (x13:Int) (l:List Sd) (k:Int) (hl:l.length<=1048576):sD ((x0,x1,x2,x3,x4,x5,x6,x7,x8,x9,x10,x11,x12,x13,l),k)=some (sA l k,()):=by
 have hm:maxLen=9223372036854775807:=by decide
 show Hw BIG _=_;rw [ag1];dsimp only;rw [ako l (by omega) (fun y=>decide (y.1=k))]
 ·unfold sA;split<;>rfl
 ·intro self i y hy;have hi:=(aS hy).1;simp only [show ((i:Int)<(l.length:Int)) from by omega,decide_true,ah];rw [aB hi,hy,ae,bE (by omega)];cases decide (y.1=k)<;>rfl
 ·intro self;simp
theorem aoa {l:List Sd} {i:Nat} {y:Sd} (h:l[i]?=some y):decide (0<=sA (l.take i) y.1) = !decide (sA l y.1=(i:Int)):=by
 obtain ⟨hi,rfl⟩:=aS h;have hlt:l.findIdx (fun z=>decide (z.1=(l[i]).1))<l.length:=List.findIdx_lt_length.2 ⟨l[i],List.getElem_mem hi,by simp⟩;have hle:l.findIdx (fun z=>decide (z.1=(l[i]).1))<=i:=by
  by_cases hc:i<l.findIdx (fun z=>decide (z.1=(l[i]).1))
  ·have:=List.not_of_lt_findIdx hc;simp at this
  ·omega
 unfold sA;rw [if_pos hlt];by_cases he:l.findIdx (fun z=>decide (z.1=(l[i]).1))=i
 ·rw [if_neg]
  ·simp [he]
  ·intro hc;obtain ⟨z,hz,hp⟩:=List.findIdx_lt_length.1 hc;obtain ⟨j,hj,rfl⟩:=List.getElem_of_mem hz;rw [List.length_take] at hj;have:=List.not_of_lt_findIdx (xs:=l) (p:=fun z=>decide (z.1=(l[i]).1)) (i:=j) (by omega);rw [List.getElem_take] at hp;rw [this] at hp;cases hp
 ·have hc:(l.take i).findIdx (fun z=>decide (z.1=(l[i]).1))<(l.take i).length:=by
   refine List.findIdx_lt_length.2 ⟨l[l.findIdx (fun z=>decide (z.1=(l[i]).1))],?_,by exact List.findIdx_getElem (xs:=l) (p:=fun z=>decide (z.1=(l[i]).1)) (w:=hlt)⟩;refine List.mem_iff_getElem.2 ⟨l.findIdx (fun z=>decide (z.1=(l[i]).1)),by rw [List.length_take];omega,?_⟩;rw [List.getElem_take]
  rw [if_pos hc,ai (by omega),au (by omega)];rfl
def tB (a b c d sh:Int) (o:Fq):Bool:=blQ a b c d&&(decide (sh=0)&&blO o)
theorem akp (a b c d sh:Int) (o:Fq):Ml (a,b,c,d,sh,o)=some (tB a b c d sh o,()):=by
 show Mk BIG _=_;rw [ajU,abQ];dsimp only;rw [am7];unfold tB blO;cases blQ a b c d<;>cases decide (sh=0)<;>cases decide (o.1=0)<;>cases decide (o.2.1=0)<;>cases decide (o.2.2.1.length=0)<;>rfl
theorem UN (a b c d sh:Int) (o:Fq) (h1:o.2.2.1.length<=maxLen):sM (a,b,c,d,sh,o)=some (tB a b c d sh o,()):=by
 show sK BIG _=_;rw [T_];dsimp only;rw [am7];have h0:mg (o,((0:Int),(0:Int),[],(0:Int)))=some (blO o,()):=by
  have:mg (o,((0:Int),(0:Int),[],(0:Int)))=sH BIG (o,((0:Int),(0:Int),[],(0:Int))):=rfl;rw [this,TZ];dsimp only;rw [BZ _ _ h1,Ws];unfold blO;cases decide (o.1=0)<;>cases decide (o.2.1=0)<;>cases decide (o.2.2.1.length=0)<;>cases decide (o.2.2.2=0)<;>rfl
 rw [h0];unfold tB;cases blQ a b c d<;>cases decide (sh=0)<;>cases blO o<;>rfl
def qJ (n:Int) (k:Nat) (op a b:Int):Bool:=
 aU op 1 4&&(aU a 0 (n-1)&&(bif decide (op=4) then aU b 1 k else aU b 0 (n-1) && !(decide (a=b)&&(decide (op=1) || decide (op=2)))))
theorem Yu (x0:Int) (x1:List Int) (x2:List Ed) (x3:List (List Int)) (x4:List Int) (x5 x6 x7 x8 x9 x10 x11:Int) (x12:List Ed) (x13:Int) (x14:List Sd) (i op a b:Int) (h0:1<=x0/\x0<=12):BM ((x0,x1,x2,x3,x4,x5,x6,x7,x8,x9,x10,x11,x12,x13,x14),(i,op,a,b))=some (!qJ x0 x3.length op a b,()):=by
 show Mq BIG _=_;rw [ajW];dsimp only;rw [wr (by omega) (by omega)];simp only [gY];unfold qJ;by_cases h4:op=4
 ·subst h4;simp only [decide_true,ah,ae];cases aU 4 1 4<;>cases aU a 0 (x0-1)<;>cases aU b 1 (x3.length:Int)<;>cases decide (a=b)<;>rfl
 ·simp only [h4,decide_false,aj,ae];cases aU op 1 4<;>cases aU a 0 (x0-1)<;>cases aU b 0 (x0-1)<;>cases decide (a=b)<;>cases decide (op=1)<;>cases decide (op=2)<;>rfl
theorem PY (x0:Int) (x1:List Int) (x2:List Ed) (x3:List (List Int)) (x4:List Int) (x5 x6 x7 x8 x9 x10 x11:Int) (x12:List Ed) (x13:Int) (x14:List Sd) (i op a b:Int) (h0:1<=x0/\x0<=12):vz ((x0,x1,x2,x3,x4,x5,x6,x7,x8,x9,x10,x11,x12,x13,x14),(i,op,a,b))=some (qJ x0 x3.length op a b,()):=by
 show Db BIG _=_;rw [ac2];dsimp only;rw [wr (by omega) (by omega)];simp only [bI];unfold qJ;by_cases h4:op=4
 ·subst h4;simp only [decide_true,ah,ae];cases aU 4 1 4<;>cases aU a 0 (x0-1)<;>cases aU b 1 (x3.length:Int)<;>rfl
 ·simp only [h4,decide_false,aj,ae];by_cases h3:op=3
  ·subst h3;simp only [decide_true,ah,ae];cases aU 3 1 4<;>cases aU a 0 (x0-1)<;>cases aU b 0 (x0-1)<;>cases decide (a=b)<;>rfl
  ·simp only [h3,decide_false,aj];cases hq:aU op 1 4 with
   | false=>rfl
   | true=>
    have:(decide (op=1) || decide (op=2))=true:=by
     rw [aQ] at hq;by_cases op=1<;>by_cases op=2<;>simp_all<;>omega
    rw [this];cases aU a 0 (x0-1)<;>cases aU b 0 (x0-1)<;>cases decide (a=b)<;>rfl
theorem gD {α:Type} {l:List α} {i:Nat} {y d:α} (h:l[i]?=some y):l.getD i d=y:=by rw [bJ,h];rfl
def p1 (k:Nat) (l:List Int) (i:Nat):Bool:=aU (l.getD i 0) 1 k
def p2 (own:List Int) (cuts:List Ed) (i:Nat):Bool:=!decide (own.getD (cuts.getD i (0,0)).1.toNat 0=own.getD (cuts.getD i (0,0)).2.toNat 0)
def p3 (n:Int) (L:List (List Int)) (nums:List Int) (i:Nat):Bool:=qd n (L.getD i [])&&aU (nums.getD i 0) 0 99991
def p4c (l:List Sd) (i:Nat) (y:Sd):Bool:=decide (y.1=y.2.1)&&(aU y.2.2.2.2.2 1 3&&decide (sA l y.1=(i:Int)))
def p4 (l:List Sd) (i:Nat):Bool:=p4c l i (l.getD i (0,0,0,0,0,0))
abbrev oP1 (k:Nat) (l:List Int):Prop:=∀i,i<l.length->p1 k l i=true
abbrev oP2 (own:List Int) (cuts:List Ed):Prop:=∀i,i<cuts.length->p2 own cuts i=true
abbrev oP3 (n:Int) (L:List (List Int)) (nums:List Int):Prop:=∀i,i<L.length->p3 n L nums i=true
abbrev tZ (l:List Sd):Prop:=∀i,i<l.length->p4 l i=true
theorem afi (own:List Int) (cuts:List Ed) (n:Int) (he:iV n cuts=true) (hn:(own.length:Int)=n) {B:Type} (self:Int->Option (Unit ⊕ Bool)) (i:Nat) (y:Ed) (hy:cuts[i]?=some y) (hl:cuts.length<=1048576) :
  (bnd own.length y.1 fun n12=>
   Option.bind own[n12]? fun y13=>
   bnd own.length y.2 fun n14=>
   Option.bind own[n14]? fun y15=>
   bif decide (y13=y15) then some (Sum.inr false)
   else self (IntKind.wrap .i64 ((i:Int)+(1:Int))))=if p2 own cuts i then self ((i+1:Nat):Int) else some (.inr false):=by
 have hm:maxLen=9223372036854775807:=by decide
 have hi:=(aS hy).1;subst hn;have hb:=dF ((ik he).1 y (List.mem_of_getElem? hy));have h1:own[y.1.toNat]?=some (own[y.1.toNat]'(by omega)):=aO (by omega);have h2:own[y.2.toNat]?=some (own[y.2.toNat]'(by omega)):=aO (by omega);rw [bn (by omega) (by omega),h1,ae,bn (by omega) (by omega),h2,ae,bE (by omega)];unfold p2;rw [gD hy,gD h1,gD h2];cases decide (own[y.1.toNat]'(by omega)=own[y.2.toNat]'(by omega))<;>rfl
open Classical in
noncomputable def oI (n:Int) (own:List Int) (cuts:List Ed) (L:List (List Int)) (nums:List Int) (said:List Sd) (t:Bool):Bool:=
 decide ((aU n 1 12=true/\aU (L.length:Int) 1 3=true/\nums.length=L.length)/\oP3 n L nums/\((own.length:Int)=n/\iV n cuts=true)/\oP1 L.length own/\oP2 own cuts/\(tZ said/\said.length<=80)/\t=true)
def mY (n:Int) (k:Nat) (nums:List Int) (said:List Sd) (id op a b sh:Int) (o:Fq):Bool:=
 tB id op a b sh o || ((aU id 1 100000&&(!decide (op=3)&&qJ n k op a b))&&(aU sh 1 k&&(mX n o&&(decide (o.1=IntKind.wrap .i64 (nums.getD (sh-1).toNat 0+1))&&decide (sA said id<0)))))
theorem aks (x0:Int) (x1:List Int) (x2:List Ed) (x3:List (List Int)) (x4:List Int) (x5 x6 x7 x8 x9 x10 x11:Int) (x12:List Ed) (x13:Int) (x14:List Sd) (h0:1<=x0/\x0<=12) (h4:x4.length=x3.length) (hk:x3.length<=3) (h12:x12.length<=1048576) (h14:x14.length<=1048576) :
  Mw (x0,x1,x2,x3,x4,x5,x6,x7,x8,x9,x10,x11,x12,x13,x14)=some (mY x0 x3.length x4 x14 x5 x6 x7 x8 x9 (x10,x11,x12,x13),()):=by
 show Mv BIG _=_;rw [ajY];dsimp only;rw [akp x5 x6 x7 x8 x9 (x10,x11,x12,x13),ae,Yu _ _ _ _ _ _ _ _ _ _ _ _ _ _ _ _ _ _ _ h0];simp only [gY];unfold mY;cases tB x5 x6 x7 x8 x9 (x10,x11,x12,x13) with
 | true=>rfl
 | false=>
  simp only [aj,ae,Bool.false_or];cases aU x5 1 100000 with
  | false=>rfl
  | true=>
   cases decide (x6=3) with
   | true=>rfl
   | false=>
    cases qJ x0 x3.length x6 x7 x8 with
    | false=>rfl
    | true=>
     simp only [aZ,aj,ae,dM,Bool.and_self,Bool.true_and];cases hs:aU x9 1 (x3.length:Int) with
     | false=>rfl
     | true=>
      rw [UF x0 (x10,x11,x12,x13) h12];simp only [ah,ae,Bool.true_and];cases mX x0 (x10,x11,x12,x13) with
      | false=>rfl
      | true=>
       rw [aQ] at hs;have h1:x4[(x9-1).toNat]?=some (x4[(x9-1).toNat]'(by omega)):=aO (by omega);rw [ah,wr (n:=x9-1) (by omega) (by omega),bn (by omega) (by omega),h1,ae,gD h1,B_ x14 x5 h14];simp only [Bool.true_and];cases decide (x10=IntKind.wrap .i64 (x4[(x9-1).toNat]'(by omega)+1))<;>rfl
theorem abT (x0:Int) (x1:List Int) (x2:List Ed) (x3:List (List Int)) (x4:List Int) (x5 x6 x7 x8 x9 x10 x11:Int) (x12:List Ed) (x13:Int) (x14:List Sd) (h0:1<=x0/\x0<=12) (h4:x4.length=x3.length) (hk:x3.length<=3) (h12:x12.length<=1048576) (h14:x14.length<=1048576) :
  zH (x0,x1,x2,x3,x4,x5,x6,x7,x8,x9,x10,x11,x12,x13,x14)=some (mY x0 x3.length x4 x14 x5 x6 x7 x8 x9 (x10,x11,x12,x13),()):=by
 have hm:maxLen=9223372036854775807:=by decide
 show zG BIG _=_;rw [aaZ];dsimp only;rw [UN x5 x6 x7 x8 x9 (x10,x11,x12,x13) (by simp only;omega),ae,PY _ _ _ _ _ _ _ _ _ _ _ _ _ _ _ _ _ _ _ h0,Jl _ _ _ _ _ _ _ _ _ _ _ _ _ _ _ _ h14];simp only [bI];unfold mY;cases tB x5 x6 x7 x8 x9 (x10,x11,x12,x13) with
 | true=>rfl
 | false=>
  simp only [aj,ae,Bool.false_or];cases hs:aU x9 1 (x3.length:Int) with
  | false=>simp
  | true=>
   rw [UE x0 (x10,x11,x12,x13) h12];simp only [ah,ae,Bool.true_and];cases mX x0 (x10,x11,x12,x13) with
   | false=>simp
   | true=>
    rw [aQ] at hs;have h1:x4[(x9-1).toNat]?=some (x4[(x9-1).toNat]'(by omega)):=aO (by omega);rw [ah,wr (n:=x9-1) (by omega) (by omega),bn (by omega) (by omega),h1,ae,gD h1];simp only [Bool.true_and];cases decide (x10=IntKind.wrap .i64 (x4[(x9-1).toNat]'(by omega)+1))<;>cases decide (sA x14 x5<0)<;>cases qJ x0 x3.length x6 x7 x8<;>cases decide (x6=3)<;>cases aU x5 1 100000<;>rfl
open Classical in
theorem al8 (x0:Int) (x1:List Int) (x2:List Ed) (x3:List (List Int)) (x4:List Int) (x5 x6 x7 x8 x9 x10 x11:Int) (x12:List Ed) (x13:Int) (x14:List Sd) (h1:x1.length<=1048576) (h2:x2.length<=1048576) :
  Q7 (x0,x1,x2,x3,x4,x5,x6,x7,x8,x9,x10,x11,x12,x13,x14)=some (decide (((x1.length:Int)=x0/\iV x0 x2=true)/\oP1 x3.length x1/\oP2 x1 x2),()):=by
 have hm:maxLen=9223372036854775807:=by decide
 show Q6 BIG _=_;rw [alM];dsimp only;rw [yl x0 x2 h2];by_cases hn:(x1.length:Int)=x0
 ·cases he:iV x0 x2 with
  | false=>simp [hn]
  | true=>
   rw [ai hn];simp only [aZ,aj,ae];rw [iJ x1 (by omega) (p1 x3.length x1) false]
   ·by_cases hp:oP1 x3.length x1
    ·rw [if_pos hp];simp only [ae];rw [iJ x2 (by omega) (p2 x1 x2) false]
     ·by_cases hq:oP2 x1 x2
      ·rw [if_pos hq,ai (by exact ⟨⟨hn,by first|rfl|trivial|exact he⟩,hp,hq⟩)];rfl
      ·rw [if_neg hq,au (fun h=>hq h.2.2)];rfl
     ·intro self i y hy;have hi:=(aS hy).1;simp only [show ((i:Int)<(x2.length:Int)) from by omega,decide_true,ah];rw [aB hi,hy,ae];exact afi x1 x2 x0 he hn (B:=Unit) self i y hy h2
     ·intro self;simp
    ·rw [if_neg hp,au (fun h=>hp h.2.1)];rfl
   ·intro self i y hy;have hi:=(aS hy).1;simp only [show ((i:Int)<(x1.length:Int)) from by omega,decide_true,ah];rw [aB hi,hy,ae,gY,ae,bE (by omega)];unfold p1;rw [gD hy];cases aU y 1 (x3.length:Int)<;>rfl
   ·intro self;simp
 ·rw [au hn];simp [hn]
open Classical in
theorem akt (l:List Sd) (hl:l.length<=1048576):Mh l=some (decide (tZ l/\l.length<=80),()):=by
 have hm:maxLen=9223372036854775807:=by decide
 show Mg BIG _=_;rw [ajS];rw [iJ l (by omega) (p4 l) false]
 ·by_cases hp:tZ l
  ·rw [if_pos hp];by_cases hq:l.length<=80
   ·have e:decide (tZ l/\l.length<=80)=true:=ai ⟨hp,hq⟩;have e2:decide ((l.length:Int)<=80)=true:=ai (by omega);rw [e,e2];rfl
   ·have e:decide (tZ l/\l.length<=80)=false:=au (fun h=>hq h.2);have e2:decide ((l.length:Int)<=80)=false:=au (by omega);rw [e,e2];rfl
  ·have e:decide (tZ l/\l.length<=80)=false:=au (fun h=>hp h.1);rw [if_neg hp,e];rfl
 ·intro self i y hy;have hi:=(aS hy).1;simp only [show ((i:Int)<(l.length:Int)) from by omega,decide_true,ah];rw [aB hi,hy,ae,gY,bE (by omega),ai (show (0:Int)<=(i:Int) from by omega),ai (show 0<=Int.toNat (i:Int)/\Int.toNat (i:Int)<=l.length from ⟨by omega,by omega⟩),fH,Nat.sub_zero,List.drop_zero,B_ _ _ (by rw [List.length_take];omega)];simp only [ah,ae];rw [aoa hy];unfold p4;rw [gD hy];unfold p4c;cases decide (y.1=y.2.1)<;>cases aU y.2.2.2.2.2 1 3<;>cases decide (sA l y.1=(i:Int))<;>rfl
 ·intro self;simp
theorem ap2 {n:Int} {own:List Int} {cuts:List Ed} {L:List (List Int)} {nums:List Int} {said:List Sd} {t:Bool} (h:(aU n 1 12=true/\aU (L.length:Int) 1 3=true/\nums.length=L.length)/\oP3 n L nums/\((own.length:Int)=n/\iV n cuts=true)/\oP1 L.length own/\oP2 own cuts/\(tZ said/\said.length<=80)/\t=true):oI n own cuts L nums said t=true:=by
 unfold oI;exact ai h
theorem lV {n:Int} {own:List Int} {cuts:List Ed} {L:List (List Int)} {nums:List Int} {said:List Sd} {t:Bool} (h:(aU n 1 12=true/\aU (L.length:Int) 1 3=true/\nums.length=L.length)/\oP3 n L nums/\((own.length:Int)=n/\iV n cuts=true)/\oP1 L.length own/\oP2 own cuts/\(tZ said/\said.length<=80)/\t=true->False):oI n own cuts L nums said t=false:=by
 unfold oI;exact au h
open Classical in
theorem Nj (x0:Int) (x1:List Int) (x2:List Ed) (x3:List (List Int)) (x4:List Int) (x5 x6 x7 x8 x9 x10 x11:Int) (x12:List Ed) (x13:Int) (x14:List Sd) (h1:x1.length<=1048576) (h2:x2.length<=1048576) (h3:x3.length<=1048576/\∀y,y∈x3->y.length<=1048576) (h12:x12.length<=1048576) (h14:x14.length<=1048576) :
  kX (x0,x1,x2,x3,x4,x5,x6,x7,x8,x9,x10,x11,x12,x13,x14)=some (oI x0 x1 x2 x3 x4 x14 (mY x0 x3.length x4 x14 x5 x6 x7 x8 x9 (x10,x11,x12,x13)),()):=by
 have hm:maxLen=9223372036854775807:=by decide
 show MC BIG _=_;rw [aj0];dsimp only;rw [al8 _ _ _ _ _ _ _ _ _ _ _ _ _ _ _ h1 h2,akt _ h14];simp only [gY];cases ha:aU x0 1 12 with
 | false=>rw [lV (fun h=>by rw [ha] at h;cases h.1.1)];rfl
 | true=>
  cases hb:aU (x3.length:Int) 1 3 with
  | false=>rw [lV (fun h=>by rw [hb] at h;cases h.1.2.1)];rfl
  | true=>
   by_cases hc:x4.length=x3.length
   ·rw [ai (show (x4.length:Int)=(x3.length:Int) from by omega)];simp only [aZ,aj,ae];rw [iJ x3 (by omega) (p3 x0 x3 x4) false]
    ·by_cases hp:oP3 x0 x3 x4
     ·rw [if_pos hp];have ha0:=ha;have hb0:=hb;rw [aQ] at ha hb;rw [aks _ _ _ _ _ _ _ _ _ _ _ _ _ _ _ ha hc (by omega) h12 h14];simp only [ae];by_cases q1:((x1.length:Int)=x0/\iV x0 x2=true)/\oP1 x3.length x1/\oP2 x1 x2
      ·by_cases q2:tZ x14/\x14.length<=80
       ·cases q3:mY x0 x3.length x4 x14 x5 x6 x7 x8 x9 (x10,x11,x12,x13) with
        | false=>rw [ai q1,ai q2,lV (fun h=>by cases h.2.2.2.2.2.2)];rfl
        | true=>rw [ai q1,ai q2,ap2 ⟨⟨ha0,hb0,hc⟩,hp,q1.1,q1.2.1,q1.2.2,q2,rfl⟩];rfl
       ·rw [ai q1,au q2,lV (fun h=>q2 h.2.2.2.2.2.1)];rfl
      ·rw [au q1,lV (fun h=>q1 ⟨h.2.2.1,h.2.2.2.1,h.2.2.2.2.1⟩)];rfl
     ·rw [if_neg hp,lV (fun h=>hp h.2.1)];rfl
    ·intro self i y hy;have hi:=(aS hy).1;have hz:x4[i]?=some (x4[i]'(by omega)):=aO (by omega);simp only [show ((i:Int)<(x3.length:Int)) from by omega,decide_true,ah];simp only [aB hi,hy,ae,PU x0 y (h3.2 y (List.mem_of_getElem? hy)),aB (show i<x4.length from by omega),hz,bE (show i<maxLen from by omega)];unfold p3;rw [gD hy,gD hz];cases qd x0 y<;>cases aU (x4[i]'(by omega)) 0 99991<;>rfl
    ·intro self;simp
   ·rw [au (show ¬(x4.length:Int)=(x3.length:Int) from by omega),lV (fun h=>hc h.1.2.2)];rfl
open Classical in
theorem Nk (x0 : Int) (x1 : List Int) (x2 : List Ed) (x3 : List (List Int)) (x4 : List Int) (x5 x6 x7 x8 x9 x10 x11 : Int) (x12 : List Ed) (x13 : Int) (x14 : List Sd) (h1 : x1.length ≤ 1048576) (h2 : x2.length ≤ 1048576) (h3 : x3.length ≤ 1048576 ∧ ∀ y, y ∈ x3 → y.length ≤ 1048576) (h12 : x12.length ≤ 1048576) (h14 : x14.length ≤ 1048576) :
    wE (x0, x1, x2, x3, x4, x5, x6, x7, x8, x9, x10, x11, x12, x13, x14) = some (oI x0 x1 x2 x3 x4 x14 (mY x0 x3.length x4 x14 x5 x6 x7 x8 x9 (x10, x11, x12, x13)), ()) := by
  have hm : maxLen = 9223372036854775807 := by decide
  show Lp BIG _ = _;rw [ajD];dsimp only;rw [vN x0 x2 h2];simp only [bI];cases ha : aU x0 1 12 with
  | false => rw [lV (fun h => by rw [ha] at h; cases h.1.1)]; rfl
  | true =>
    cases hb : aU (x3.length : Int) 1 3 with
    | false => rw [lV (fun h => by rw [hb] at h; cases h.1.2.1)]; rfl
    | true =>
      by_cases hc : x4.length = x3.length
      · rw [ai (show (x4.length : Int) = (x3.length : Int) from by omega)]
        simp only [aZ, aj, ae]
        by_cases hn : (x1.length : Int) = x0
        · rw [ai hn]
          cases he : iV x0 x2 with
          | false => rw [lV (fun h => by rw [he] at h; cases h.2.2.1.2)]; rfl
          | true =>
            simp only [aZ, aj, ae];by_cases hs : x14.length ≤ 80
            · rw [au (show ¬ (80 : Int) < (x14.length : Int) from by omega), aj]
              rw [iJ x3 (by omega) (p3 x0 x3 x4) false]
              · by_cases hp : oP3 x0 x3 x4
                · rw [if_pos hp]
                  simp only [ae]
                  have L1 := iJ x1 (by omega) (p1 x3.length x1) false (F := fun (self16 : Int → Option (Unit ⊕ Bool)) (x15 : Int) =>
                     bif decide (x15 < x0) then
                      bnd x1.length x15 fun n17 =>
                      Option.bind x1[n17]? fun y18 =>
                      bif !aU y18 (1 : Int) (x3.length : Int) then
                       some (Sum.inr false)
                      else self16 (IntKind.wrap .i64 (x15 + (1 : Int)))
                     else some (Sum.inl ())) (by
                    intro self i y hy
                    have hi := (aS hy).1
                    simp only [show ((i : Int) < x0) from by omega, decide_true, ah]
                    rw [aB hi, hy, ae, bE (by omega)]
                    unfold p1
                    rw [gD hy]
                    cases aU y 1 (x3.length : Int) <;> rfl) (by
                    intro self
                    simp [hn])
                  rw [L1]
                  by_cases hp1 : oP1 x3.length x1
                  · rw [if_pos hp1]
                    simp only [ae]
                    rw [iJ x2 (by omega) (p2 x1 x2) false]
                    · by_cases hp2 : oP2 x1 x2
                      · rw [if_pos hp2]
                        simp only [ae]
                        rw [iJ x14 (by omega) (p4 x14) false]
                        · by_cases hp4 : tZ x14
                          · rw [if_pos hp4]
                            have ha0 := ha
                            have hb0 := hb
                            rw [aQ] at ha hb
                            simp only [ae]
                            rw [abT _ _ _ _ _ _ _ _ _ _ _ _ _ _ _ ha hc (by omega) h12 h14]
                            simp only [ae]
                            cases q3 : mY x0 x3.length x4 x14 x5 x6 x7 x8 x9 (x10, x11, x12, x13) with
                            | false => rw [lV (fun h => by cases h.2.2.2.2.2.2)]
                            | true => rw [ap2 ⟨⟨ha0, hb0, hc⟩, hp, ⟨hn, he⟩, hp1, hp2, ⟨hp4, hs⟩, rfl⟩]
                          · rw [if_neg hp4, lV (fun h => hp4 h.2.2.2.2.2.1.1)]; rfl
                        · intro self i y hy
                          have hi := (aS hy).1
                          simp only [show ((i : Int) < (x14.length : Int)) from by omega, decide_true, ah]
                          simp only [aB hi, hy, ae, bE (show i < maxLen from by omega), Jl _ _ _ _ _ _ _ _ _ _ _ _ _ _ _ _ h14]
                          unfold p4
                          rw [gD hy]
                          unfold p4c
                          cases decide (y.1 = y.2.1) <;> cases aU y.2.2.2.2.2 1 3 <;> cases decide (sA x14 y.1 = (i : Int)) <;> rfl
                        · intro self; simp
                      · rw [if_neg hp2, lV (fun h => hp2 h.2.2.2.2.1)]; rfl
                    · intro self i y hy
                      have hi := (aS hy).1
                      simp only [show ((i : Int) < (x2.length : Int)) from by omega, decide_true, ah]
                      simp only [aB hi, hy, ae]
                      exact afi x1 x2 x0 he hn (B := Unit) self i y hy h2
                    · intro self; simp
                  · rw [if_neg hp1, lV (fun h => hp1 h.2.2.2.1)]; rfl
                · rw [if_neg hp, lV (fun h => hp h.2.1)]; rfl
              · intro self i y hy
                have hi := (aS hy).1
                have hz : x4[i]? = some (x4[i]'(by omega)) := aO (by omega)
                simp only [show ((i : Int) < (x3.length : Int)) from by omega, decide_true, ah]
                simp only [aB hi, hy, ae, Na x0 y (h3.2 y (List.mem_of_getElem? hy)), aB (show i < x4.length from by omega), hz, bE (show i < maxLen from by omega)]
                unfold p3
                rw [gD hy, gD hz]
                cases qd x0 y <;> cases aU (x4[i]'(by omega)) 0 99991 <;> rfl
              · intro self; simp
            · rw [ai (show (80 : Int) < (x14.length : Int) from by omega), lV (fun h => hs h.2.2.2.2.2.1.2)]; rfl
        · rw [au hn, lV (fun h => hn h.2.2.1.1)]; rfl
      · rw [au (show ¬ (x4.length : Int) = (x3.length : Int) from by omega), lV (fun h => hc h.1.2.2)]; rfl
theorem wJ {S α:Type} (p:α->Bool) (f:S->α->S):∀(l:List α) (s:S),fM (fun s y=>if p y=true then some (f s y) else none) s l=if l.all p=true then some (l.foldl f s) else none
 | [],s=>by simp [fM]
 | y::l,s=>by
  rw [fM];cases hp:p y with
  | false=>simp [hp]
  | true=>simp only [if_true,ae,wJ p f l,List.all_cons,hp,Bool.true_and,List.foldl_cons]
def xE (l:List Int):List Ed:=l.zipIdx.map fun p=>(p.1,(p.2:Int))
def vP (l:List Int):Bool:=l.zipIdx.all fun p=>aU p.1 0 (p.2:Int)
def pL (n:Int) (l:List Int):Bool:=decide ((l.length:Int)=n)&&vP l
def wlB (n:Int) (L:List (List Int)) (cuts:List Ed):Bool:=aU n 1 12&&(decide (L.length<=3)&&(L.all (pL n)&&cuts.all (df n)))
def xF (n:Int) (L:List (List Int)) (cuts:List Ed):List Int × Bool:=if wlB n L cuts=true then (labs n.toNat (L.flatMap xE++cuts),true) else ([],false)
theorem Fy {l:List Int} {i:Nat} {p:Int × Nat} (h:l.zipIdx[i]?=some p):l[i]?=some p.1/\p.2=i:=by
 rw [List.getElem?_zipIdx] at h;cases hl:l[i]? with
 | none=>rw [hl] at h;simp at h
 | some x=>rw [hl] at h;simp at h;subst h;simp
theorem aqE {n:Nat} {l:List Int} (hl:l.length=n) (h:vP l=true):kz n (xE l):=by
 intro e he;obtain ⟨p,hp,rfl⟩:=List.mem_map.1 he;obtain ⟨i,hi,rfl⟩:=List.getElem_of_mem hp;have h1:=List.all_eq_true.1 h _ hp;obtain ⟨h2,h3⟩:=Fy (aO hi);rw [aQ] at h1;rw [List.length_zipIdx] at hi;refine ⟨h1.1,?_,?_,?_⟩<;>(simp only;omega)
theorem foldl_flat {α β S:Type} (f:α->List β) (g:S->β->S):∀(L:List α) (s:S),L.foldl (fun s l=>(f l).foldl g s) s=(L.flatMap f).foldl g s
 | [],s=>rfl
 | l::L,s=>by simp only [List.foldl_cons,List.flatMap_cons,List.foldl_append,foldl_flat f g L]
theorem Nl (E:List Ed) (s:List Int):(E.foldl unE s).length=s.length:=by
 induction E generalizing s with
 | nil=>rfl
 | cons e E ih=>rw [List.foldl_cons,ih,Ob]
theorem Wt (n:Int) (L:List (List Int)) (cuts:List Ed) (hL:L.length<=1048576) (hc:cuts.length<=1048576):uQ (n,L,cuts)=some (xF n L cuts,()):=by
 have hm:maxLen=9223372036854775807:=by decide
 show uP BIG _=_;rw [VZ,gY];unfold xF wlB;cases hn:aU n 1 12 with
 | false=>rfl
 | true=>
  rw [aQ] at hn;obtain ⟨k,rfl⟩:∃k:Nat,n=(k:Int):=⟨n.toNat,by omega⟩
  by_cases h3:L.length<=3;case neg=>rw [au h3];simp only [ae,aZ,aj];rw [ai (by omega)];rfl
  rw [ai h3];simp only [ae,aZ,aj,Bool.true_and];rw [au (show ¬(3:Int)<(L.length:Int) from by omega),aj,RN k (by omega),ae];rw [qf L (by omega) (fun _ (s:List Int)=>s.length=k) (fun s l=>if pL k l=true then some ((xE l).foldl unE s) else none) (([],false):List Int × Bool) (qc k) (fun i s y s' hy hs he=>by
   split at he
   ·cases he;rw [Nl];exact hs
   ·cases he) (fun self s i y hy hs => ?_) (fun self s hs=>by simp)]
  ·rw [wJ];cases hall:L.all (pL k) with
   | false=>rfl
   | true=>
    simp only [if_true,ae,foldl_flat,Bool.true_and];rw [qf cuts (by omega) (fun _ (s:List Int)=>s.length=k) (fun s e=>if df k e=true then some (unE s e) else none) (([],false):List Int × Bool) (by rw [Nl];exact qc k) (fun i s y s' hy hs he=>by
     split at he
     ·cases he;rw [Ob];exact hs
     ·cases he) (fun self s i y hy hs => ?_) (fun self s hs=>by simp)]
    ·rw [wJ];cases hcall:cuts.all (df k) with
     | false=>rfl
     | true=>
      simp only [if_true,ae,fH];unfold labs;rw [List.foldl_append]
    ·have hi:=(aS hy).1;simp only [show ((i:Int)<(cuts.length:Int)) from by omega,decide_true,ah];rw [aB hi,hy,ae,M_,bE (by omega)];cases he:df k y with
     | false=>rfl
     | true=>
      have hin:=dF he;simp only [ae,aZ,aj,if_true];rw [Jk s y.1 y.2 hin.1 (by omega) hin.2.2.1 (by omega) (by omega)];rfl
  ·have hi:=(aS hy).1;simp only [show ((i:Int)<(L.length:Int)) from by omega,decide_true,ah];rw [aB hi,hy,ae,bE (by omega)];by_cases hlen:(y.length:Int)=(k:Int)
   case neg=>unfold pL;rw [au hlen];rfl
   rw [ai hlen,aZ,aj];have hz:(y.zipIdx).length=y.length:=List.length_zipIdx;have hlz:(((y.length:Nat):Int))=((y.zipIdx.length:Nat):Int):=by rw [hz]
   rw [qf y.zipIdx (by omega) (fun _ (s:List Int)=>s.length=k) (fun s p=>if aU p.1 0 (p.2:Int)=true then some (unE s (p.1,(p.2:Int))) else none) (([],false):List Int × Bool) hs (fun i s y s' hy hs he=>by
    split at he
    ·cases he;rw [Ob];exact hs
    ·cases he) (fun self s j p hp hs => ?_) (fun self s hs=>by simp only [hz,show ¬((y.length:Int)<(y.length:Int)) from by omega,decide_false,aj])]
   ·rw [wJ];have e1:pL k y=vP y:=by unfold pL;rw [ai hlen,Bool.true_and]
    rw [e1];unfold vP xE;cases y.zipIdx.all fun p=>aU p.1 0 (p.2:Int) with
    | false=>rfl
    | true=>simp only [if_true,ae,List.foldl_map]
   ·obtain ⟨hp1,hp2⟩:=Fy hp;have hj:=(aS hp1).1;obtain ⟨x,v⟩:=p;simp only at hp1 hp2;subst hp2;simp only [show ((v:Int)<(y.length:Int)) from by omega,decide_true,ah];rw [aB hj,hp1,ae,gY,bE (by omega)];cases hx:aU x 0 (v:Int) with
    | false=>rfl
    | true=>
     rw [aQ] at hx;simp only [ae,aZ,aj,if_true];rw [Jk s x (v:Int) hx.1 (by omega) (by omega) (by omega) (by omega)];rfl
def Nn (l:List Int):List Ed:=(xE l).filter fun e=>decide (e.1<e.2)
theorem Jm:∀(E:List Ed) (s:List Int),(∀e,e∈E->e.1<=e.2)->(E.filter fun e=>decide (e.1<e.2)).foldl unE s=E.foldl unE s
 | [],s,_=>rfl
 | e::E,s,h=>by
  rw [List.filter_cons];by_cases he:e.1<e.2
  ·rw [ai he,if_pos rfl,List.foldl_cons,List.foldl_cons];exact Jm E _ fun e' he'=>h e' (List.mem_cons_of_mem _ he')
  ·have h1:=h e (List.mem_cons_self ..);have h2:e.1=e.2:=by omega
   rw [au he,if_neg (by simp),List.foldl_cons,show unE s e=s from by unfold unE;rw [h2,abK]];exact Jm E s fun e' he'=>h e' (List.mem_cons_of_mem _ he')
theorem aob {n:Nat} {L:List (List Int)} (cuts:List Ed) (h:L.all (pL n)=true):labs n (L.flatMap Nn++cuts)=labs n (L.flatMap xE++cuts):=by
 unfold labs;rw [List.foldl_append,List.foldl_append];congr 1;have e1:L.flatMap Nn=(L.flatMap xE).filter fun e=>decide (e.1<e.2):=by
  rw [List.filter_flatMap];rfl
 rw [e1,Jm];intro e he;obtain ⟨l,hl,hel⟩:=List.mem_flatMap.1 he;have h1:=List.all_eq_true.1 h l hl;simp only [pL,aP,decide_eq_true_eq] at h1;obtain ⟨p,hp,rfl⟩:=List.mem_map.1 hel;have h2:=List.all_eq_true.1 h1.2 p hp;rw [aQ] at h2;exact h2.2
theorem aqF {n:Nat} {L:List (List Int)} {cuts:List Ed} (h:L.all (pL n)=true) (hc:cuts.all (df n)=true):kz n (L.flatMap Nn++cuts):=by
 intro e he;rcases List.mem_append.1 he with he|he
 ·obtain ⟨l,hl,hel⟩:=List.mem_flatMap.1 he;have h1:=List.all_eq_true.1 h l hl;simp only [pL,aP,decide_eq_true_eq] at h1;exact aqE (by omega) h1.2 e (List.mem_filter.1 hel).1
 ·have:=dF (List.all_eq_true.1 hc e he);exact ⟨this.1,this.2.1,this.2.2.1,this.2.2.2.1⟩
theorem abU:∀(l:List (Int × Nat)) (s:List Ed),l.foldl (fun (s:List Ed) p=>if p.1<(p.2:Int) then s++[(p.1,(p.2:Int))] else s) s=s++((l.map fun p=>(p.1,(p.2:Int))).filter fun e=>decide (e.1<e.2))
 | [],s=>by simp
 | p::l,s=>by
  rw [List.foldl_cons,abU l,List.map_cons,List.filter_cons];by_cases h:p.1<(p.2:Int)
  ·simp [h]
  ·simp [h]
theorem Yv {α β:Type} (f:α->List β):∀(L:List α) (s:List β),L.foldl (fun s l=>s++f l) s=s++L.flatMap f
 | [],s=>by simp
 | l::L,s=>by rw [List.foldl_cons,Yv f L,List.flatMap_cons,List.append_assoc]
theorem Wu (n:Int) (L:List (List Int)) (cuts:List Ed) (hL:L.length<=1048576) (hc:cuts.length<=1048576):uK (n,L,cuts)=some (if cuts.length<=1000 then xF n L cuts else ([],false),()):=by
 have hm:maxLen=9223372036854775807:=by decide
 show uJ BIG _=_;rw [VR,bI];unfold xF wlB;cases hn:aU n 1 12 with
 | false=>simp
 | true=>
  rw [aQ] at hn;obtain ⟨k,rfl⟩:∃k:Nat,n=(k:Int):=⟨n.toNat,by omega⟩
  by_cases h3:L.length<=3;case neg=>rw [au h3];simp only [ae,aZ,aj];rw [ai (by omega)];simp
  rw [ai h3];simp only [ae,aZ,aj,Bool.true_and];rw [au (show ¬(3:Int)<(L.length:Int) from by omega),aj];by_cases h1000:cuts.length<=1000;case neg=>rw [ai (by omega),if_neg h1000];rfl
  rw [au (by omega),if_pos h1000];simp only [ae,aj];rw [qf L (by omega) (fun i (s:List Ed)=>s.length<=12*i) (fun s l=>if pL k l=true then some (s++Nn l) else none) (([],false):List Int × Bool) (by simp) (fun i s y s' hy hs he=>by
   split at he
   ·rename_i hp
    cases he
    simp only [pL,aP,decide_eq_true_eq] at hp
    have h4:(Nn y).length<=y.length:=by
     unfold Nn xE
     refine Nat.le_trans (List.length_filter_le _ _) ?_
     simp
    rw [bZ];omega
   ·cases he) (fun self s i y hy hs => ?_) (fun self s hs=>by simp)]
  ·rw [wJ];cases hall:L.all (pL k) with
   | false=>rfl
   | true=>
    simp only [if_true,ae,Yv,Bool.true_and,List.nil_append];have hfl:(L.flatMap Nn).length<=36:=by
     have:∀M:List (List Int),M.all (pL k)=true->(M.flatMap Nn).length<=12*M.length:=by
      intro M;induction M with
      | nil=>intro _;simp
      | cons y M ih=>
       intro h;simp only [List.all_cons,aP] at h;have h5:=ih h.2;have hp:=h.1;simp only [pL,aP,decide_eq_true_eq] at hp;have h4:(Nn y).length<=y.length:=by
        unfold Nn xE;refine Nat.le_trans (List.length_filter_le _ _) ?_;simp
       rw [List.flatMap_cons,bZ,bA];omega
     have:=this L hall;omega
    rw [qf cuts (by omega) (fun i (s:List Ed)=>s.length<=36+i) (fun s e=>if df k e=true then some (s++[e]) else none) (([],false):List Int × Bool) (by omega) (fun i s y s' hy hs he=>by
     split at he
     ·cases he;simp;omega
     ·cases he) (fun self s i y hy hs => ?_) (fun self s hs=>by simp)]
    ·rw [wJ];cases hcall:cuts.all (df k) with
     | false=>rfl
     | true=>
      have hfold:∀(l:List Ed) (s:List Ed),l.foldl (fun s e=>s++[e]) s=s++l:=by
       intro l;induction l with
       | nil=>intro s;simp
       | cons e l ih=>intro s;rw [List.foldl_cons,ih];simp
      simp only [if_true,ae,fH,hfold];rw [AY k _ (by omega) (aqF hall hcall) (by rw [bZ];omega),ae,aob cuts hall]
    ·have hi:=(aS hy).1;simp only [show ((i:Int)<(cuts.length:Int)) from by omega,decide_true,ah];rw [aB hi,hy,ae,BX,bE (by omega)];cases he:df k y with
     | false=>rfl
     | true=>
      simp only [ae,aZ,aj,if_true];rw [aB hi,hy,ae,ai (by simp only [bA,List.length_nil];omega)];rfl
  ·have hi:=(aS hy).1;simp only [show ((i:Int)<(L.length:Int)) from by omega,decide_true,ah];rw [aB hi,hy,ae,bE (by omega)];by_cases hlen:(y.length:Int)=(k:Int)
   case neg=>unfold pL;rw [au hlen];rfl
   rw [ai hlen,aZ,aj];have hz:(y.zipIdx).length=y.length:=List.length_zipIdx;rw [qf y.zipIdx (by omega) (fun j (t:List Ed)=>t.length<=12*i+j) (fun s p=>if aU p.1 0 (p.2:Int)=true then some (if p.1<(p.2:Int) then s++[(p.1,(p.2:Int))] else s) else none) (([],false):List Int × Bool) (by omega) (fun i s y s' hy hs he=>by
    split at he
    ·cases he
     split
     ·simp;omega
     ·omega
    ·cases he) (fun self s j p hp hs => ?_) (fun self s hs=>by simp only [hz,show ¬((y.length:Int)<(k:Int)) from by omega,decide_false,aj])]
   ·rw [wJ];have e1:pL k y=vP y:=by unfold pL;rw [ai hlen,Bool.true_and]
    rw [e1];unfold vP Nn xE;cases y.zipIdx.all fun p=>aU p.1 0 (p.2:Int) with
    | false=>rfl
    | true=>simp only [if_true,ae,abU]
   ·obtain ⟨hp1,hp2⟩:=Fy hp;have hj:=(aS hp1).1;obtain ⟨x,v⟩:=p;simp only at hp1 hp2;subst hp2;simp only [show ((v:Int)<(k:Int)) from by omega,decide_true,ah];rw [bE (by omega)];simp only [aB hi,hy,ae,aB hj,hp1,bI];cases hx:aU x 0 (v:Int) with
    | false=>rfl
    | true=>
     simp only [aZ,aj,if_true];by_cases hxv:x<(v:Int)
     ·rw [ai hxv,ah,if_pos hxv,ai (by simp only [bA,List.length_nil];omega),ah];rfl
     ·rw [au hxv,aj,if_neg hxv];rfl
abbrev JO:=Int × List Int × List (Int × Int) × List (List Int) × List Int × Int × Int × Int × Int × Int × Int × Int × List (Int × Int) × Int × List (Int × Int × Int × Int × Int × Int) × Int
theorem aku (L:List (List Int)) (s:Hd):L.foldl (fun (s:Hd) y=>(s.1,s.2.1,s.2.2.1,s.2.2.2.1++[y],s.2.2.2.2)) s=(s.1,s.2.1,s.2.2.1,s.2.2.2.1++L,s.2.2.2.2):=by
 induction L generalizing s with
 | nil=>simp
 | cons y L ih=>rw [List.foldl_cons,ih];simp
theorem vO (l:List Int) (h:l.length<=1048576):ji l=some (l,()):=by
 show vD BIG _=_;rw [Pm,ai (by omega)];rfl
theorem PZ (x0:Int) (x1:List Int) (x2:List Ed) (x3:List (List Int)) (x4:List Int) (x5 x6 x7 x8 x9 x10 x11:Int) (x12:List Ed) (x13:Int) (x14:List Sd) (h1:x1.length<=1048576) (h2:x2.length<=1048576) (h3:x3.length<=1048576/\∀y,y∈x3->y.length<=1048576) (h4:x4.length<=1048576) (h12:x12.length<=1048576) (h14:x14.length<=1048576) :
  vG (x0,x1,x2,x3,x4,x5,x6,x7,x8,x9,x10,x11,x12,x13,x14)=some ((x0,x1,x2,x3,x4,x5,x6,x7,x8,x9,x10,x11,x12,x13,x14),()):=by
 have hm:maxLen=9223372036854775807:=by decide
 show DL BIG _=_;rw [adf];dsimp only;have ht:DI (x5,x6,x7,x8,x9,x10,x11,x12,x13)=some ((x5,x6,x7,x8,x9,x10,x11,x12,x13),()):=by
  show DD BIG _=_;rw [adc,A7 x12 h12];rfl
 rw [vO x1 h1,ae,A7 x2 h2,ae,vO x4 h4,ae,ht,ae,ai (by omega),ah];rw [gQ x3 (by omega) (fun i (s:Hd)=>s.2.2.2.1.length=i) (fun (s:Hd) y=>(s.1,s.2.1,s.2.2.1,s.2.2.2.1++[y],s.2.2.2.2)) id rfl (fun i s y _ h=>by simp only [bZ,bA,List.length_nil];omega) (fun self s i y hy hs => ?_) (fun self s _=>by simp)]
 ·rw [aku];simp
 ·have hi:=(aS hy).1;simp only [show ((i:Int)<(x3.length:Int)) from by omega,decide_true,ah];rw [aB hi,hy,ae,vO y (h3.2 y (List.mem_of_getElem? hy)),ae,ai (by simp only [bA,List.length_nil];omega),ah,bE (by omega)]
theorem Jn (x0:Int) (x1:List Int) (x2:List Ed) (x3:List (List Int)) (x4:List Int) (x5 x6 x7 x8 x9 x10 x11:Int) (x12:List Ed) (x13:Int) (x14:List Sd) (h1:x1.length<=1048576) (h2:x2.length<=1048576) (h3:x3.length<=1048576/\∀y,y∈x3->y.length<=1048576) (h4:x4.length<=1048576) (h12:x12.length<=1048576) (h14:x14.length<=1048576) :
  sw (x0,x1,x2,x3,x4,x5,x6,x7,x8,x9,x10,x11,x12,x13,x14)=some ((x0,x1,x2,x3,x4,x5,x6,x7,x8,x9,x10,x11,x12,x13,x14),()):=by
 have hm:maxLen=9223372036854775807:=by decide
 show Hq BIG _=_;rw [agZ];dsimp only;have ho:su (x10,x11,x12,x13)=some ((x10,x11,x12,x13),()):=by
  show sj BIG _=_;rw [TQ,ai (by simp;omega)];rfl
 rw [ai (by simp;omega),ah,ai (by simp;omega),ah,ai (by simp;omega),ah,ai (by simp;omega),ah];rw [gQ x3 (by omega) (fun i (s:List (List Int))=>s.length=i) (fun s y=>s++[y]) id rfl (fun i s y _ h=>by simp only [bZ,bA,List.length_nil];omega) (fun self s i y hy hs => ?_) (fun self s _=>by simp)]
 ·rw [ae,ho,ae];have hf:∀(L s:List (List Int)),L.foldl (fun s y=>s++[y]) s=s++L:=by
   intro L;induction L with
   | nil=>intro s;simp
   | cons y L ih=>intro s;rw [List.foldl_cons,ih];simp
  rw [hf];simp
 ·have hi:=(aS hy).1;have hy3:=h3.2 y (List.mem_of_getElem? hy);simp only [show ((i:Int)<(x3.length:Int)) from by omega,decide_true,ah];rw [aB hi,hy,ae,ai (by simp;omega),ah,ai (by simp only [bA,List.length_nil];omega),ah,bE (by omega),List.nil_append]
def Jo (x0:Int) (x1:List Int) (x2:List Ed) (x3:List (List Int)) (x4:List Int) (x14:List Sd) (i op a b v:Int):JO:=(x0,x1,x2,x3,x4,0,0,0,0,0,0,0,[],0,x14++[(i,i,op,a,b,v)],1)
def al9 (x0:Int) (x1:List Int) (x2:List Ed) (x3:List (List Int)) (x4:List Int) (x14:List Sd) (i op a b sh o:Int) (es:List Ed) (v:Int):JO:=(x0,x1,x2,x3,x4,i,op,a,b,sh,x4.getD (sh-1).toNat 0+1,o,es,v,x14,2)
def tkE (x0:Int) (x1:List Int) (x2:List Ed) (x3:List (List Int)) (x4:List Int) (x14:List Sd) (i op a b:Int):JO:=
 if x1.getD (dC a b).1.toNat 0=x1.getD (dC a b).2.toNat 0 then al9 x0 x1 x2 x3 x4 x14 i op a b (x1.getD (dC a b).1.toNat 0) (if op=2 then 2 else 1) [dC a b] 0
 else if (decide (dC a b∈x2) == decide (op=1))=true then Jo x0 x1 x2 x3 x4 x14 i op a b 2
 else Jo x0 x1 (if dC a b∈x2 then del x2 (dC a b) else ins x2 (dC a b)) x3 x4 x14 i op a b 1
def tkM (x0:Int) (x1:List Int) (x2:List Ed) (x3:List (List Int)) (x4:List Int) (x14:List Sd) (i op a b:Int):JO:=
 if qJ x0 x3.length op a b=false then Jo x0 x1 x2 x3 x4 x14 i op a b 3
 else if op=3 then Jo x0 x1 x2 x3 x4 x14 i op a b (if (xF x0 x3 x2).1.getD a.toNat 0=(xF x0 x3 x2).1.getD b.toNat 0 then 1 else 2)
 else if op=4 then (if x1.getD a.toNat 0=b then Jo x0 x1 x2 x3 x4 x14 i op a b 2 else al9 x0 x1 x2 x3 x4 x14 i op a b (x1.getD a.toNat 0) 3 [] a)
 else tkE x0 x1 x2 x3 x4 x14 i op a b
structure HdF (x0:Int) (x1:List Int) (x2:List Ed) (x3:List (List Int)) (x4:List Int) (x14:List Sd):Prop where
 n:1<=x0/\x0<=12
 k:1<=x3.length/\x3.length<=3
 nums:x4.length=x3.length
 own:(x1.length:Int)=x0
 cuts:iV x0 x2=true
 said:x14.length<=80
 o1:∀i,i<x1.length->1<=x1.getD i 0/\x1.getD i 0<=x3.length
 o3:∀i,i<x3.length->qd x0 (x3.getD i [])=true/\0<=x4.getD i 0/\x4.getD i 0<=99991
theorem ap3 {x0:Int} {x1:List Int} {x2:List Ed} {x3:List (List Int)} {x4:List Int} {x14:List Sd} {t:Bool} (h:oI x0 x1 x2 x3 x4 x14 t=true):HdF x0 x1 x2 x3 x4 x14/\t=true:=by
 unfold oI at h;have h':=of_decide_eq_true h;obtain ⟨⟨a1,a2,a3⟩,a4,⟨a5,a6⟩,a7,a8,⟨a9,a10⟩,a11⟩:=h';rw [aQ] at a1 a2;refine ⟨⟨a1,by omega,a3,a5,a6,a10,fun i hi => ?_,fun i hi => ?_⟩,a11⟩
 ·have:=a7 i hi;unfold p1 at this;rw [aQ] at this;exact this
 ·have:=a4 i hi;unfold p3 at this;rw [aP,aQ] at this;exact this
theorem aqG {n:Int} {l:List Int} (h:qd n l=true):pL n l=true:=by
 unfold qd at h;split at h;case isFalse=>cases h
 case isTrue hn=>
 split at h;case isFalse=>cases h
 case isTrue hp=>
 unfold pL;rw [ai hn,Bool.true_and];unfold vP;rw [List.all_eq_true];intro p hpm;obtain ⟨i,hi,rfl⟩:=List.getElem_of_mem hpm;obtain ⟨h1,h2⟩:=Fy (aO hi);rw [List.length_zipIdx] at hi;have h3:=hp i hi;unfold UG at h3;rw [h1] at h3;simp only [aP] at h3;rw [h2];exact h3.1
theorem HdF.wl {x0:Int} {x1:List Int} {x2:List Ed} {x3:List (List Int)} {x4:List Int} {x14:List Sd} (h:HdF x0 x1 x2 x3 x4 x14):wlB x0 x3 x2=true:=by
 unfold wlB;rw [aQ.2 h.n,ai h.k.2,Bool.true_and,Bool.true_and,aP,List.all_eq_true,List.all_eq_true];refine ⟨fun l hl => ?_,(ik h.cuts).1⟩;obtain ⟨i,hi,rfl⟩:=List.getElem_of_mem hl;have:=(h.o3 i hi).1;rw [gD (aO hi)] at this;exact aqG this
theorem HdF.wl_len {x0:Int} {x1:List Int} {x2:List Ed} {x3:List (List Int)} {x4:List Int} {x14:List Sd} (h:HdF x0 x1 x2 x3 x4 x14):((xF x0 x3 x2).1.length:Int)=x0:=by
 unfold xF;rw [if_pos h.wl];have:=h.n;simp only [bV];omega
section
variable {x0:Int} {x1:List Int} {x2:List Ed} {x3:List (List Int)} {x4:List Int} {x14:List Sd}
theorem gy (x5 x6 x7 x8 x9 x10 x11:Int) (x12:List Ed) (x13:Int) (i op a b v:Int) (h:x14.length<=1048576):eB ((x0,x1,x2,x3,x4,x5,x6,x7,x8,x9,x10,x11,x12,x13,x14),(i,op,a,b),v)=some (1,(x0,x1,x2,x3,x4,x5,x6,x7,x8,x9,x10,x11,x12,x13,x14++[(i,i,op,a,b,v)])):=by
 show DZ BIG _=_;rw [adj];dsimp only;rw [ai (by simp only [bA,List.length_nil];omega),ah]
theorem jl (x5 x6 x7 x8 x9 x10 x11:Int) (x12:List Ed) (x13:Int) (i op a b v:Int) (h:x14.length<=1048576):kW ((x0,x1,x2,x3,x4,x5,x6,x7,x8,x9,x10,x11,x12,x13,x14),(i,op,a,b),v)=some ((),(x0,x1,x2,x3,x4,0,0,0,0,0,0,0,[],0,x14++[(i,i,op,a,b,v)])):=by
 show LD BIG _=_;rw [ajH];dsimp only;rw [ai (by simp only [bA,List.length_nil];omega),ah]
theorem HdF.num (h:HdF x0 x1 x2 x3 x4 x14) {sh:Int} (h1:1<=sh) (h2:sh<=x3.length):IntKind.wrap .i64 (sh-1)=sh-1/\0<=sh-1/\sh-1<x4.length/\x4[(sh-1).toNat]?=some (x4.getD (sh-1).toNat 0)/\IntKind.wrap .i64 (x4.getD (sh-1).toNat 0+1)=x4.getD (sh-1).toNat 0+1:=by
 have hk:=h.k;have hn:=h.nums;have h3:=h.o3 (sh-1).toNat (by omega);exact ⟨wr (by omega) (by omega),by omega,by omega,getD_at (by omega),wr (by omega) (by omega)⟩
theorem xf (h:HdF x0 x1 x2 x3 x4 x14) (x5 x6 x7 x8 x9 x10 x11:Int) (x12:List Ed) (x13:Int) (i op a b sh q o:Int) (es:List Ed) (v:Int) (h1:1<=sh) (h2:sh<=x3.length):iP ((x0,x1,x2,x3,x4,x5,x6,x7,x8,x9,x10,x11,x12,x13,x14),(i,op,a,b),sh,(q,o,es,v))=some (2,(x0,x1,x2,x3,x4,i,op,a,b,sh,x4.getD (sh-1).toNat 0+1,o,es,v,x14)):=by
 obtain ⟨g1,g2,g3,g4,g5⟩:=h.num h1 h2;show oO BIG _=_;rw [JL];dsimp only;rw [g1,bn g2 g3,g4,ae,g5]
theorem UO (h:HdF x0 x1 x2 x3 x4 x14) (x5 x6 x7 x8 x9 x10 x11:Int) (x12:List Ed) (x13:Int) (i op a b sh q o:Int) (es:List Ed) (v:Int) (h1:1<=sh) (h2:sh<=x3.length):xY ((x0,x1,x2,x3,x4,x5,x6,x7,x8,x9,x10,x11,x12,x13,x14),(i,op,a,b),sh,(q,o,es,v))=some (2,(x0,x1,x2,x3,x4,i,op,a,b,sh,x4.getD (sh-1).toNat 0+1,o,es,v,x14)):=by
 obtain ⟨g1,g2,g3,g4,g5⟩:=h.num h1 h2;show HY BIG _=_;rw [ag4];dsimp only;rw [g1,bn g2 g3,g4,ae,g5]
theorem HdF.at (h:HdF x0 x1 x2 x3 x4 x14) {v:Int} (h1:0<=v) (h2:v<=x0-1):v<x1.length/\x1[v.toNat]?=some (x1.getD v.toNat 0)/\1<=x1.getD v.toNat 0/\x1.getD v.toNat 0<=x3.length:=by
 have ho:=h.own;have:=h.o1 v.toNat (by omega);exact ⟨by omega,getD_at (by omega),this.1,this.2⟩
theorem akv {a b n:Int} (ha:0<=a/\a<=n) (hb:0<=b/\b<=n):(0<=(dC a b).1/\(dC a b).1<=n)/\(0<=(dC a b).2/\(dC a b).2<=n):=by
 unfold dC;split<;>exact ⟨by simpa,by simpa⟩
def frt:JO->Int × Hd:=fun h=>(h.2.2.2.2.2.2.2.2.2.2.2.2.2.2.2,(h.1,h.2.1,h.2.2.1,h.2.2.2.1,h.2.2.2.2.1,h.2.2.2.2.2.1,h.2.2.2.2.2.2.1,h.2.2.2.2.2.2.2.1,h.2.2.2.2.2.2.2.2.1,h.2.2.2.2.2.2.2.2.2.1,h.2.2.2.2.2.2.2.2.2.2.1,h.2.2.2.2.2.2.2.2.2.2.2.1,h.2.2.2.2.2.2.2.2.2.2.2.2.1,h.2.2.2.2.2.2.2.2.2.2.2.2.2.1,h.2.2.2.2.2.2.2.2.2.2.2.2.2.2.1))
theorem abV (h:HdF x0 x1 x2 x3 x4 x14) (i op a b:Int) (hop:op=1\/op=2) (ha:0<=a/\a<=x0-1) (hb:0<=b/\b<=x0-1):Ai ((x0,x1,x2,x3,x4,0,0,0,0,0,0,0,[],0,x14),(i,op,a,b))=some (frt (tkE x0 x1 x2 x3 x4 x14 i op a b)):=by
 have hm:maxLen=9223372036854775807:=by decide
 have hcl:=jJ h.cuts;have hsd:=h.said;obtain ⟨e1,e2⟩:=akv ha hb;obtain ⟨g1,g2,g3,g4⟩:=h.at e1.1 e1.2;obtain ⟨k1,k2,k3,k4⟩:=h.at e2.1 e2.2;show Ah BIG _=_;rw [abp];dsimp only;rw [akm,ae,Ji _ _ (by omega),ae];dsimp only;unfold tkE;generalize dC a b=e at *
 simp only [bn e1.1 g1,g2,ae,bn e2.1 k1,k2];generalize hp:x1.getD e.1.toNat 0=p at *
 generalize hq:x1.getD e.2.toNat 0=q at *
 by_cases hpq:p=q
 ·subst hpq;rcases hop with rfl|rfl
  ·simp only [decide_true,ah,ae,if_true];rw [xf h _ _ _ _ _ _ _ _ _ _ _ _ _ _ _ _ _ _ g3 g4];rfl
  ·simp only [decide_true,ah,ae,if_true,show decide ((2:Int)=1)=false from rfl,aj];rw [xf h _ _ _ _ _ _ _ _ _ _ _ _ _ _ _ _ _ _ g3 g4];rfl
 ·simp only [au hpq,aj,ae,if_neg hpq];by_cases hin:e∈x2
  ·rcases hop with rfl|rfl
   ·simp only [ai hin,decide_true,ah,aZ,ae,aj,show decide ((1:Int)=2)=false from rfl,beq_self_eq_true,if_true];rw [gy _ _ _ _ _ _ _ _ _ _ _ _ _ _ (by omega)];rfl
   ·simp only [ai hin,decide_true,ah,aZ,ae,aj,show decide ((2:Int)=1)=false from rfl,show (true == false)=false from rfl,Bool.false_eq_true,if_false,if_pos hin];rw [Fx _ _ (by omega),ae,gy _ _ _ _ _ _ _ _ _ _ _ _ _ _ (by omega)];rfl
  ·rcases hop with rfl|rfl
   ·simp only [au hin,decide_true,ah,dM,ae,aj,show (false == true)=false from rfl,Bool.false_eq_true,if_false,if_neg hin];rw [Ew _ _ (by omega),Wo (ik h.cuts).2.1 hin,ae,gy _ _ _ _ _ _ _ _ _ _ _ _ _ _ (by omega)];rfl
   ·simp only [au hin,decide_true,ah,dM,ae,aj,show decide ((2:Int)=1)=false from rfl,beq_self_eq_true,if_true];rw [gy _ _ _ _ _ _ _ _ _ _ _ _ _ _ (by omega)];rfl
theorem abW (h:HdF x0 x1 x2 x3 x4 x14) (i op a b:Int) (hop:op=1\/op=2) (ha:0<=a/\a<=x0-1) (hb:0<=b/\b<=x0-1):zU ((x0,x1,x2,x3,x4,0,0,0,0,0,0,0,[],0,x14),(i,op,a,b))=some (frt (tkE x0 x1 x2 x3 x4 x14 i op a b)):=by
 have hm:maxLen=9223372036854775807:=by decide
 have hcl:=jJ h.cuts;have hsd:=h.said;obtain ⟨e1,e2⟩:=akv ha hb;obtain ⟨g1,g2,g3,g4⟩:=h.at e1.1 e1.2;obtain ⟨k1,k2,k3,k4⟩:=h.at e2.1 e2.2;show zP BIG _=_;rw [aa6];dsimp only;rw [UL,ae];dsimp only;unfold tkE;generalize dC a b=e at *
 have hx:(bif decide (op=(2:Int)) then some (2:Int) else some (1:Int))=some (if op=2 then 2 else 1):=by
  rcases hop with rfl|rfl<;>rfl
 rw [hx,ae];simp only [bn e1.1 g1,g2,ae,bn e2.1 k1,k2];generalize hp:x1.getD e.1.toNat 0=p at *
 generalize hq:x1.getD e.2.toNat 0=q at *
 by_cases hpq:p=q
 ·subst hpq;simp only [decide_true,ah,if_true];rw [UO h _ _ _ _ _ _ _ _ _ _ _ _ _ _ _ _ _ _ g3 g4];rfl
 ·simp only [au hpq,aj,if_neg hpq];rw [wI _ _ (by omega),ae];cases hc:(decide (e∈x2) == decide (op=1)) with
  | true=>
   simp only [ah,if_true];rw [jl _ _ _ _ _ _ _ _ _ _ _ _ _ _ (by omega)];rfl
  | false=>
   simp only [aj,Bool.false_eq_true,if_false];by_cases hin:e∈x2
   ·simp only [ai hin,ah,if_pos hin];rw [xe _ _ (by omega),ae,ae,jl _ _ _ _ _ _ _ _ _ _ _ _ _ _ (by omega)];rfl
   ·simp only [au hin,aj,if_neg hin];rw [Nf _ _ (by omega),ae,ae,jl _ _ _ _ _ _ _ _ _ _ _ _ _ _ (by omega)];rfl
theorem Y7 {n:Int} {k:Nat} {op a b:Int} (h:qJ n k op a b=true):(1<=op/\op<=4)/\(0<=a/\a<=n-1)/\(op=4->1<=b/\b<=k)/\(op≠4->0<=b/\b<=n-1):=by
 unfold qJ at h;simp only [aP,aQ] at h;refine ⟨h.1,h.2.1,fun h4 => ?_,fun h4 => ?_⟩
 ·have:=h.2.2;rw [ai h4,ah,aQ] at this;exact this
 ·have:=h.2.2;rw [au h4,aj,aP,aQ] at this;exact this.1
theorem abX (h:HdF x0 x1 x2 x3 x4 x14) (i op a b:Int):Am ((x0,x1,x2,x3,x4,0,0,0,0,0,0,0,[],0,x14),(i,op,a,b))=some (frt (tkM x0 x1 x2 x3 x4 x14 i op a b)):=by
 have hm:maxLen=9223372036854775807:=by decide
 have hcl:=jJ h.cuts;have hsd:=h.said;have hk:=h.k;show Al BIG _=_;rw [abr];dsimp only;rw [Yu _ _ _ _ _ _ _ _ _ _ _ _ _ _ _ _ _ _ _ h.n,ae];unfold tkM;cases hr:qJ x0 x3.length op a b with
 | false=>
  simp only [dM,ah,if_true];rw [gy _ _ _ _ _ _ _ _ _ _ _ _ _ _ (by omega)];rfl
 | true=>
  obtain ⟨r1,r2,r3,r4⟩:=Y7 hr;simp only [aZ,aj,Bool.true_eq_false,if_false];by_cases h3:op=3
  ·subst h3;have hb:=r4 (by omega);have hl:=h.wl_len;simp only [decide_true,ah,if_true];have ha':a.toNat<(xF x0 x3 x2).1.length:=by omega
   have hb':b.toNat<(xF x0 x3 x2).1.length:=by omega
   rw [Wt _ _ _ (by omega) (by omega),ae];dsimp only;rw [bn r2.1 (by omega),getD_at ha',ae,bn hb.1 (by omega),getD_at hb',ae,abO,ae];rw [gy _ _ _ _ _ _ _ _ _ _ _ _ _ _ (by omega)];simp only [decide_eq_true_eq];rfl
  ·simp only [au h3,aj,if_neg h3];by_cases h4:op=4
   ·subst h4;obtain ⟨g1,g2,g3,g4⟩:=h.at r2.1 r2.2;simp only [decide_true,ah,if_true,bn r2.1 g1,g2,ae];by_cases hab:x1.getD a.toNat 0=b
    ·rw [ai hab,if_pos hab,ah,gy _ _ _ _ _ _ _ _ _ _ _ _ _ _ (by omega)];rfl
    ·rw [au hab,if_neg hab,aj,xf h _ _ _ _ _ _ _ _ _ _ _ _ _ _ _ _ _ _ g3 g4];rfl
   ·simp only [au h4,aj,ae,if_neg h4];rw [abV h i op a b (by omega) r2 (r4 h4)];rfl
end
noncomputable def xg (x0:Int) (x1:List Int) (x2:List Ed) (x3:List (List Int)) (x4:List Int) (x5 x6 x7 x8 x9 x10 x11:Int) (x12:List Ed) (x13:Int) (x14:List Sd) (i:Int):Bool:=
 oI x0 x1 x2 x3 x4 x14 (mY x0 x3.length x4 x14 x5 x6 x7 x8 x9 (x10,x11,x12,x13))&&(aU i 1 100000&&(!decide (0<=sA x14 i)&&(decide (x9=0) && !decide ((80:Int)<=(x14.length:Int)))))
noncomputable def Yw (x0:Int) (x1:List Int) (x2:List Ed) (x3:List (List Int)) (x4:List Int) (x5 x6 x7 x8 x9 x10 x11:Int) (x12:List Ed) (x13:Int) (x14:List Sd) (i op a b:Int):JO:=
 if xg x0 x1 x2 x3 x4 x5 x6 x7 x8 x9 x10 x11 x12 x13 x14 i=true then tkM x0 x1 x2 x3 x4 x14 i op a b else (x0,x1,x2,x3,x4,x5,x6,x7,x8,x9,x10,x11,x12,x13,x14,0)
theorem Wv {x0:Int} {x1:List Int} {x2:List Ed} {x3:List (List Int)} {x4:List Int} {x5 x6 x7 x8 x9 x10 x11:Int} {x12:List Ed} {x13:Int} {x14:List Sd} {i:Int} (h:xg x0 x1 x2 x3 x4 x5 x6 x7 x8 x9 x10 x11 x12 x13 x14 i=true) :
  HdF x0 x1 x2 x3 x4 x14/\x5=0/\x6=0/\x7=0/\x8=0/\x9=0/\x10=0/\x11=0/\x12=[]/\x13=0:=by
 unfold xg at h;simp only [aP,decide_eq_true_eq] at h;obtain ⟨h1,h2,h3,h4,h5⟩:=h;obtain ⟨hF,ht⟩:=ap3 h1;subst h4;unfold mY at ht;rw [Bool.or_eq_true] at ht;rcases ht with ht|ht
 ·unfold tB blQ blO at ht;simp only [aP,decide_eq_true_eq] at ht;obtain ⟨⟨b1,b2,b3,b4⟩,_,c1,c2,c3,c4⟩:=ht;exact ⟨hF,b1,b2,b3,b4,rfl,c1,c2,List.length_eq_zero_iff.1 c3,c4⟩
 ·simp only [aP,aQ] at ht;omega
section
variable (x0:Int) (x1:List Int) (x2:List Ed) (x3:List (List Int)) (x4:List Int) (x5 x6 x7 x8 x9 x10 x11:Int) (x12:List Ed) (x13:Int) (x14:List Sd) (i op a b:Int) (h1:x1.length<=1048576) (h2:x2.length<=1048576) (h3:x3.length<=1048576/\∀y,y∈x3->y.length<=1048576) (h4:x4.length<=1048576) (h12:x12.length<=1048576) (h14:x14.length<=1048576)
include h1 h2 h3 h4 h12 h14
theorem aoc:yB ((x0,x1,x2,x3,x4,x5,x6,x7,x8,x9,x10,x11,x12,x13,x14),(i,op,a,b))=some (Yw x0 x1 x2 x3 x4 x5 x6 x7 x8 x9 x10 x11 x12 x13 x14 i op a b,()):=by
 show V7 BIG _=_;rw [an0,PZ x0 x1 x2 x3 x4 x5 x6 x7 x8 x9 x10 x11 x12 x13 x14 h1 h2 h3 h4 h12 h14,ae];dsimp only;rw [Nj x0 x1 x2 x3 x4 x5 x6 x7 x8 x9 x10 x11 x12 x13 x14 h1 h2 h3 h12 h14,gY,B_ x14 i h14,Wp];have hx:(Option.bind (some (oI x0 x1 x2 x3 x4 x14 (mY x0 x3.length x4 x14 x5 x6 x7 x8 x9 (x10,x11,x12,x13)),())) fun r1:Bool × Unit=>
   bif !r1.1 then some true else Option.bind (some (aU i 1 100000,())) fun r2:Bool × Unit=>bif !r2.1 then some true else Option.bind (some (sA x14 i,())) fun r3:Int × Unit=>bif decide ((0:Int)<=r3.1) then some true else Option.bind (some (!decide (x9=0),())) fun r4:Bool × Unit=>bif r4.1 then some true else some (decide ((80:Int)<=(x14.length:Int))))=some (!xg x0 x1 x2 x3 x4 x5 x6 x7 x8 x9 x10 x11 x12 x13 x14 i):=by
  unfold xg;simp only [ae];cases oI x0 x1 x2 x3 x4 x14 (mY x0 x3.length x4 x14 x5 x6 x7 x8 x9 (x10,x11,x12,x13))<;>cases aU i 1 100000<;>cases decide ((0:Int)<=sA x14 i)<;>cases decide (x9=0)<;>cases decide ((80:Int)<=(x14.length:Int))<;>rfl
 refine (congrArg (fun o=>Option.bind o _) hx).trans ?_;unfold Yw;cases hok:xg x0 x1 x2 x3 x4 x5 x6 x7 x8 x9 x10 x11 x12 x13 x14 i with
 | false=>rfl
 | true=>
  obtain ⟨hF,rfl,rfl,rfl,rfl,rfl,rfl,rfl,rfl,rfl⟩:=Wv hok;simp only [aZ,ae,aj,if_true];rw [abX hF];rfl
theorem aod:Fe ((x0,x1,x2,x3,x4,x5,x6,x7,x8,x9,x10,x11,x12,x13,x14),(i,op,a,b))=some (Yw x0 x1 x2 x3 x4 x5 x6 x7 x8 x9 x10 x11 x12 x13 x14 i op a b,()):=by
 have hm:maxLen=9223372036854775807:=by decide
 show VU BIG _=_;rw [anW,Jn x0 x1 x2 x3 x4 x5 x6 x7 x8 x9 x10 x11 x12 x13 x14 h1 h2 h3 h4 h12 h14,ae];dsimp only;rw [Nk x0 x1 x2 x3 x4 x5 x6 x7 x8 x9 x10 x11 x12 x13 x14 h1 h2 h3 h12 h14,bI,Jl x0 x1 x2 x3 x4 x5 x6 x7 x8 x9 x10 x11 x12 x13 x14 i h14,Wq];have hx:(Option.bind (some (oI x0 x1 x2 x3 x4 x14 (mY x0 x3.length x4 x14 x5 x6 x7 x8 x9 (x10,x11,x12,x13)),())) fun r1:Bool × Unit=>
   bif !r1.1 then some true else Option.bind (some (aU i 1 100000,())) fun r2:Bool × Unit=>bif !r2.1 then some true else Option.bind (some (sA x14 i,())) fun r3:Int × Unit=>bif decide ((0:Int)<=r3.1) then some true else Option.bind (some (!decide (x9=0),())) fun r4:Bool × Unit=>bif r4.1 then some true else some (decide ((80:Int)<=(x14.length:Int))))=some (!xg x0 x1 x2 x3 x4 x5 x6 x7 x8 x9 x10 x11 x12 x13 x14 i):=by
  unfold xg;simp only [ae];cases oI x0 x1 x2 x3 x4 x14 (mY x0 x3.length x4 x14 x5 x6 x7 x8 x9 (x10,x11,x12,x13))<;>cases aU i 1 100000<;>cases decide ((0:Int)<=sA x14 i)<;>cases decide (x9=0)<;>cases decide ((80:Int)<=(x14.length:Int))<;>rfl
 refine (congrArg (fun o=>Option.bind o _) hx).trans ?_;unfold Yw;cases hok:xg x0 x1 x2 x3 x4 x5 x6 x7 x8 x9 x10 x11 x12 x13 x14 i with
 | false=>rfl
 | true=>
  obtain ⟨hF,rfl,rfl,rfl,rfl,rfl,rfl,rfl,rfl,rfl⟩:=Wv hok;have hcl:=jJ hF.cuts;have hsd:=hF.said;have hk:=hF.k;simp only [aZ,ae,aj,if_true];rw [PY _ _ _ _ _ _ _ _ _ _ _ _ _ _ _ _ _ _ _ hF.n,ae];unfold tkM;cases hr:qJ x0 x3.length op a b with
  | false=>
   simp only [dM,ah,if_true];rw [jl _ _ _ _ _ _ _ _ _ _ _ _ _ _ (by omega)];rfl
  | true=>
   obtain ⟨r1,r2,r3,r4⟩:=Y7 hr;simp only [aZ,aj,Bool.true_eq_false,if_false];by_cases h3':op=3
   ·subst h3';have hb:=r4 (by omega);have hl:=hF.wl_len;simp only [decide_true,ah,if_true];have ha':a.toNat<(xF x0 x3 x2).1.length:=by omega
    have hb':b.toNat<(xF x0 x3 x2).1.length:=by omega
    rw [Wu _ _ _ (by omega) (by omega),if_pos (by omega),ae];dsimp only;rw [bn r2.1 (by omega),getD_at ha',ae,bn hb.1 (by omega),getD_at hb',ae];by_cases hab:(xF x0 x3 x2).1.getD a.toNat 0=(xF x0 x3 x2).1.getD b.toNat 0
    ·rw [ai hab,if_pos hab,ah,ae,jl _ _ _ _ _ _ _ _ _ _ _ _ _ _ (by omega)];rfl
    ·rw [au hab,if_neg hab,aj,ae,jl _ _ _ _ _ _ _ _ _ _ _ _ _ _ (by omega)];rfl
   ·simp only [au h3',aj,if_neg h3'];by_cases h4':op=4
    ·subst h4';obtain ⟨g1,g2,g3,g4⟩:=hF.at r2.1 r2.2;simp only [decide_true,ah,if_true,bn r2.1 g1,g2,ae];by_cases hab:x1.getD a.toNat 0=b
     ·rw [ai hab,if_pos hab,ah,jl _ _ _ _ _ _ _ _ _ _ _ _ _ _ (by omega)];rfl
     ·rw [au hab,if_neg hab,aj,UO hF _ _ _ _ _ _ _ _ _ _ _ _ _ _ _ _ _ _ g3 g4];rfl
    ·simp only [au h4',aj,if_neg h4'];rw [abW hF i op a b (by omega) r2 (r4 h4')];rfl
end
theorem UQ (l:List Ed) (e:Ed):(del l e).length<=l.length:=List.length_filter_le _ _
theorem abY {α:Type} (p q:α->Bool) (h:∀x,p x=true->q x=true->False):∀l:List α,(l.filter p).length+(l.filter q).length<=l.length
 | []=>by simp
 | x::l=>by
  have ih:=abY p q h l;rw [List.filter_cons,List.filter_cons,bA];cases hp:p x<;>cases hq:q x<;>simp only [Bool.false_eq_true,if_false,if_true,bA]<;>first
   | omega
   | exact absurd hq (fun hq=>h x hp hq)
theorem UR (l:List Ed) (e:Ed):(ins l e).length<=l.length+1:=by
 unfold ins;have:=abY (fun y=>lsB y e) (fun y=>lsB e y) (fun x h1 h2=>by
  simp only [lsB,Bool.or_eq_true,aP,decide_eq_true_eq] at h1 h2
  omega) l
 simp only [bZ,bA,List.length_nil];omega
theorem aoe {n k i:Nat} (h:i<n):(Nh n k)[i]?=some (1+((i % k:Nat):Int)):=by
 unfold Nh;rw [List.getElem?_map,List.getElem?_range h];rfl
theorem al_ (n k:Nat):(Nh n k).length=n:=by simp [Nh]
theorem ahL (x0:Int) (x1:List Int) (x2:List Ed) (x3:List (List Int)) (x4:List Int) (x5 x6 x7 x8 x9 x10 x11:Int) (x12:List Ed) (x13:Int) (l:List Sd) (k:Int) (hl:l.length<=1048576):tC ((x0,x1,x2,x3,x4,x5,x6,x7,x8,x9,x10,x11,x12,x13,l),k)=(if decide (sA l k<0)=true then some ((0,false),()) else bnd l.length (sA l k) fun n1=>Option.bind l[n1]? fun y2=>some ((y2.2.2.2.2.2,true),())):=by
 show Jc BIG _=_;rw [ahC];dsimp only;rw [B_ l k hl,ae];cases decide (sA l k<0)<;>rfl
theorem bW {X B C:Type} {F:(X->Option B)->X->Option B} (I:X->Prop) (μ:X->Nat) (Q:X->B->Prop) (P:Option C->Prop) {x:X} {k:B->Option C} (hx:μ x<BIG) (hi:I x)
  (h:∀self x,I x->(∀y,I y->μ y<μ x->∃b,self y=some b/\Q y b)->∃b,F self x=some b/\Q x b) (hk:∀b,Q x b->P (k b)):P (Option.bind (aI BIG F x) k):=by
 obtain ⟨b,h1,h2⟩:=qa (F:=F) I μ Q h hx hi;rw [h1];exact hk b h2
theorem adI (a b:List Int) (ha:a.length<=maxLen):Eo (a,b)=some (decide (a=b),()):=by
 rw [<-uX a b ha];show En BIG _=nD BIG _;rw [adu,E_];all_goals rfl
theorem akw {l:List Int} {v:Nat} {x:Int} (h:l[v]?=some x):(x,(v:Int))∈xE l:=by
 unfold xE;refine List.mem_map.2 ⟨(x,v),?_,rfl⟩;have:l.zipIdx[v]?=some (x,v):=by rw [List.getElem?_zipIdx,h];simp
 exact List.mem_of_getElem? this
theorem akx {l:List Int} {e:Ed} (h:e∈xE l):∃v:Nat,l[v]?=some e.1/\e.2=(v:Int):=by
 obtain ⟨p,hp,rfl⟩:=List.mem_map.1 h;obtain ⟨i,hi⟩:=List.mem_iff_getElem?.1 hp;obtain ⟨h1,h2⟩:=Fy hi;exact ⟨i,h1,by simp [h2]⟩
theorem aof {n:Nat} {A:List Ed} (h:kz n A):pL (n:Int) (labs n A)=true:=by
 have hL:=iK h;unfold pL;rw [ai (by rw [bV]),Bool.true_and];unfold vP;rw [List.all_eq_true];intro p hp;obtain ⟨i,hi⟩:=List.mem_iff_getElem?.1 hp;obtain ⟨h1,h2⟩:=Fy hi;have:=hL.le h1;have:=hL.lt h1;rw [aQ,h2];omega
theorem Ca {es:List Ed} (h:oH es):es.Nodup:=by
 refine List.Pairwise.imp (fun {a b} hab => ?_) h;rintro rfl;rw [UH] at hab;cases hab
theorem abZ:∀{A:List Ed} {s s':List Ed},fM xD s A=some s'->s'=A.foldl ins s
 | [],s,s',h=>by simp only [fM,aK] at h;exact h.symm
 | e::A,s,s',h=>by
  rw [fM] at h;cases he:xD s e with
  | none=>rw [he] at h;cases h
  | some s1=>
   rw [he] at h;obtain ⟨_,rfl⟩:=RL he;exact abZ (A:=A) (s:=ins s e) h
def lW (cuts es:List Ed):List Ed:=es.foldl ins cuts
def jD (own:List Int) (cuts es:List Ed) (a b:Int):List Ed:=(lW cuts es).filter (AU (own.set a.toNat b) b)
def Np (x0:Int) (x1:List Int) (x2:List Ed) (x3:List (List Int)) (x4:List Int) (x14:List Sd) (i op a b:Int) (es:List Ed):JO:=
 if ∀e,e∈es->e∉x2 then
  (if (jD x1 x2 es a b).length=0 then Jo x0 (x1.set a.toNat b) (lW x2 es) x3 x4 x14 i op a b 1
   else al9 x0 (x1.set a.toNat b) ((jD x1 x2 es a b).foldl del (lW x2 es)) x3 x4 x14 i op a b b 4 (jD x1 x2 es a b) 0)
 else Jo x0 x1 x2 x3 x4 x14 i op a b 3
theorem RO (cuts:List Ed):∀es:List Ed,(lW cuts es).length<=cuts.length+es.length:=by
 unfold lW;intro es;induction es generalizing cuts with
 | nil=>simp
 | cons e es ih=>
  rw [List.foldl_cons,bA];have:=ih (ins cuts e);have:=UR cuts e;omega
theorem YV (l:List Ed):∀cuts:List Ed,(l.foldl del cuts).length<=cuts.length:=by
 induction l with
 | nil=>intro c;simp
 | cons e l ih=>
  intro c;rw [List.foldl_cons];have:=ih (del c e);have:=UQ c e;omega
theorem aqH (x0:Int) (x1:List Int) (x2:List Ed) (x3:List (List Int)) (x4:List Int) (x14:List Sd) (x5 x6 x7 x8 x9 x10 x11:Int) (x12:List Ed) (x13:Int) (i op a b sh q o:Int) (es:List Ed) (v:Int) (hn:x4.length<=1000000) (h1:1<=sh) (h2:sh<=x4.length) (h3:0<=x4.getD (sh-1).toNat 0/\x4.getD (sh-1).toNat 0<=1000000):iP ((x0,x1,x2,x3,x4,x5,x6,x7,x8,x9,x10,x11,x12,x13,x14),(i,op,a,b),sh,(q,o,es,v))=some (2,(x0,x1,x2,x3,x4,i,op,a,b,sh,x4.getD (sh-1).toNat 0+1,o,es,v,x14)):=by
 have hi:(sh-1).toNat<x4.length:=by omega
 show oO BIG _=_;rw [JL];dsimp only;rw [wr (n:=sh-1) (by omega) (by omega),bn (by omega) (by omega),getD_at hi,ae,wr (by omega) (by omega)]
theorem aqI (x0:Int) (x1:List Int) (x2:List Ed) (x3:List (List Int)) (x4:List Int) (x14:List Sd) (x5 x6 x7 x8 x9 x10 x11:Int) (x12:List Ed) (x13:Int) (i op a b sh q o:Int) (es:List Ed) (v:Int) (hn:x4.length<=1000000) (h1:1<=sh) (h2:sh<=x4.length) (h3:0<=x4.getD (sh-1).toNat 0/\x4.getD (sh-1).toNat 0<=1000000):zM ((x0,x1,x2,x3,x4,x5,x6,x7,x8,x9,x10,x11,x12,x13,x14),(i,op,a,b),sh,(q,o,es,v))=some (2,(x0,x1,x2,x3,x4,i,op,a,b,sh,x4.getD (sh-1).toNat 0+1,o,es,v,x14)):=by
 have hi:(sh-1).toNat<x4.length:=by omega
 show zK BIG _=_;rw [aa2];dsimp only;rw [wr (n:=sh-1) (by omega) (by omega),bn (by omega) (by omega),getD_at hi,ae,wr (by omega) (by omega)]
theorem ap4 (x0:Int) (x1:List Int) (x2:List Ed) (x3:List (List Int)) (x4:List Int) (x14:List Sd) (x5 x6 x7 x8 x9 x10 x11:Int) (x12:List Ed) (x13:Int) (i op a b v:Int) (h:x14.length<=1048576):vC ((x0,x1,x2,x3,x4,x5,x6,x7,x8,x9,x10,x11,x12,x13,x14),(i,op,a,b),v)=some ((),(x0,x1,x2,x3,x4,0,0,0,0,0,0,0,[],0,x14++[(i,i,op,a,b,v)])):=by
 show Dg BIG _=_;rw [ac4];dsimp only;rw [ai (by simp only [bA,List.length_nil];omega),ah]
section
variable (x0:Int) (x1:List Int) (x2:List Ed) (x3:List (List Int)) (x4:List Int) (x14:List Sd) (i op a b:Int) (es:List Ed)
theorem RP (h0:1<=x0/\x0<=12) (h1:(x1.length:Int)=x0) (h2:oH x2/\x2.length<=66) (h3:x3.length<=3) (h4:x4.length=x3.length) (h14:x14.length<=80) (he:oH es/\es.length<=66) (ha:0<=a/\a<=x0-1) (hb:1<=b/\b<=x3.length) (hn:∀j,j<x4.length->0<=x4.getD j 0/\x4.getD j 0<=1000000) :
  p_ ((x0,x1,x2,x3,x4,0,0,0,0,0,0,0,[],0,x14),(i,op,a,b),es)=some (frt (Np x0 x1 x2 x3 x4 x14 i op a b es)):=by
 have hm:maxLen=9223372036854775807:=by decide
 show p9 BIG _=_;rw [RG];dsimp only;rw [qf es (by omega) (fun _ (s:Hd)=>s=(x0,x1,x2,x3,x4,0,0,0,0,0,0,0,[],0,x14)) (fun s e=>if (!decide (e∈x2))=true then some s else none) ((1,(x0,x1,x2,x3,x4,0,0,0,0,0,0,0,[],0,x14++[(i,i,op,a,b,3)])):Int × Hd) rfl (fun j s y s' hy hs hst=>by
  split at hst
  ·cases hst;exact hs
  ·cases hst) (fun self s j y hy hs => ?_) (fun self s hs=>by simp)]
 ·rw [wJ];have hc:(es.all fun e=>!decide (e∈x2))=decide (∀e,e∈es->e∉x2):=by
   rw [Bool.eq_iff_iff,List.all_eq_true,decide_eq_true_eq];exact ⟨fun h e he=>by simpa using h e he,fun h e he=>by simpa using h e he⟩
  rw [hc];unfold Np;by_cases hno:∀e,e∈es->e∉x2
  ·rw [ai hno,if_pos rfl,if_pos hno];have hfold:∀(l:List Ed) (s:Hd),l.foldl (fun s _=>s) s=s:=by
    intro l;induction l with
    | nil=>intro s;rfl
    | cons e l ih=>intro s;rw [List.foldl_cons,ih]
   rw [hfold,ae];simp only;rw [wr (n:=x0-1) (by omega) (by omega),gY,gY];rw [show aU a 0 (x0-1)=true from aQ.2 ha,show aU b 1 (x3.length:Int)=true from aQ.2 hb];simp only [ae,aZ,aj];have hnd:=Ca he.1;rw [gQ es (by omega) (fun j (s:Hd)=>s=(x0,x1,(es.take j).foldl ins x2,x3,x4,0,0,0,0,0,0,0,[],0,x14)/\oH s.2.2.1/\s.2.2.1.length<=66+j/\∀e,e∈es.drop j->e∉s.2.2.1) (fun s e=>(s.1,s.2.1,ins s.2.2.1 e,s.2.2.2)) id (by exact ⟨rfl,h2.1,by show x2.length<=66+0;omega,hno⟩) (fun j s y hy ⟨k1,k2,k3,k4⟩ => ?_) (fun self s j y hy ⟨k1,k2,k3,k4⟩ => ?_) (fun self s _=>by simp)]
   ·have hff:∀(l:List Ed) (c:List Ed),l.foldl (fun (s:Hd) e=>(s.1,s.2.1,ins s.2.2.1 e,s.2.2.2)) (x0,x1,c,x3,x4,0,0,0,0,0,0,0,[],0,x14)=(x0,x1,l.foldl ins c,x3,x4,0,0,0,0,0,0,0,[],0,x14):=by
     intro l;induction l with
     | nil=>intro c;rfl
     | cons e l ih=>intro c;rw [List.foldl_cons,List.foldl_cons,ih]
    have hai:a.toNat<x1.length:=by omega
    have hCl:=RO x2 es;have hIl:(jD x1 x2 es a b).length<=(lW x2 es).length:=List.length_filter_le _ _;rw [hff];simp only [id,ae];rw [bn ha.1 (by omega),aO hai,ae,akb _ _ _ (by rw [jH];omega) (by show (lW x2 es).length<=_;omega),ae];have e1:List.filter (AU (x1.set a.toNat b) b) (es.foldl ins x2)=jD x1 x2 es a b:=rfl;have e2:es.foldl ins x2=lW x2 es:=rfl;simp only [e1];rw [e2];by_cases hI:(jD x1 x2 es a b).length=0
    ·rw [ai (by omega),ah,if_pos hI,gy _ _ _ _ _ _ _ _ _ _ _ _ _ _ (by omega)];rfl
    ·rw [au (by omega),aj,if_neg hI];rw [gQ (jD x1 x2 es a b) (by omega) (fun j (s:Hd)=>s.2.2.1.length<=132) (fun s e=>(s.1,s.2.1,del s.2.2.1 e,s.2.2.2)) id (by simp only;omega) (fun j s y hy hs=>by
      have:=UQ s.2.2.1 y
      simp only;omega) (fun self s j y hy hs => ?_) (fun self s _=>by simp)]
     ·have hdd:∀(l:List Ed) (o:List Int) (c:List Ed),l.foldl (fun (s:Hd) e=>(s.1,s.2.1,del s.2.2.1 e,s.2.2.2)) (x0,o,c,x3,x4,0,0,0,0,0,0,0,[],0,x14)=(x0,o,l.foldl del c,x3,x4,0,0,0,0,0,0,0,[],0,x14):=by
       intro l o;induction l with
       | nil=>intro c;rfl
       | cons e l ih=>intro c;rw [List.foldl_cons,List.foldl_cons,ih]
      rw [hdd];simp only [id,ae];rw [aqH _ _ _ _ _ _ _ _ _ _ _ _ _ _ _ _ _ _ _ _ _ _ _ _ (by omega) hb.1 (by omega) (hn _ (by omega))];rfl
     ·have hj:=(aS hy).1;simp only [show ((j:Int)<((jD x1 x2 es a b).length:Int)) from by omega,decide_true,ah];rw [aB hj,hy,ae,Fx _ _ (by omega),ae,bE (by omega)]
   ·have hj:=(aS hy).1;have ht:es.take (j+1)=es.take j++[y]:=by
     rw [List.take_succ_eq_append_getElem hj];rw [aO hj,aK] at hy;rw [hy]
    have hd:es.drop j=y::es.drop (j+1):=by
     rw [List.drop_eq_getElem_cons hj];rw [aO hj,aK] at hy;rw [hy]
    subst k1;refine ⟨?_,Wn k2,?_,fun e hee hin => ?_⟩
    ·rw [ht,List.foldl_append];rfl
    ·have:=UR ((es.take j).foldl ins x2) y;simp only at k3 ⊢;omega
    ·rcases jq.1 hin with rfl|hin
     ·have hnn:(es.drop j).Nodup:=hnd.sublist (List.drop_sublist _ _);rw [hd,List.nodup_cons] at hnn;exact hnn.1 hee
     ·exact k4 e (by rw [hd];exact List.mem_cons_of_mem _ hee) hin
   ·have hj:=(aS hy).1;simp only [show ((j:Int)<(es.length:Int)) from by omega,decide_true,ah];have hmem:y∈es.drop j:=by
     rw [List.drop_eq_getElem_cons hj];rw [aO hj,aK] at hy;rw [hy];exact List.mem_cons_self ..
    rw [aB hj,hy,ae,Ew _ _ (by omega),Wo k2 (k4 y hmem),ae,bE (by omega)]
  ·rw [au hno,if_neg (by simp),if_neg hno];rfl
 ·have hj:=(aS hy).1;simp only [show ((j:Int)<(es.length:Int)) from by omega,decide_true,ah];subst hs;rw [aB hj,hy,ae,Ji _ _ (by simp only;omega),ae,bE (by omega)];simp only;by_cases hin:y∈x2
  ·rw [ai hin,ah,gy _ _ _ _ _ _ _ _ _ _ _ _ _ _ (by omega)];simp
  ·rw [au hin,aj];simp
theorem adJ (x5 x6 x7 x8 x9 x10 x11:Int) (x12:List Ed) (x13:Int) (h0:1<=x0/\x0<=12) (h1:(x1.length:Int)=x0) (h2:oH x2/\x2.length<=66) (h3:x3.length<=3) (h4:x4.length=x3.length) (h14:x14.length<=80) (he:oH es/\es.length<=66) (ha:0<=a/\a<=x0-1) (hb:1<=b/\b<=x3.length) (hn:∀j,j<x4.length->0<=x4.getD j 0/\x4.getD j 0<=1000000) :
  Dl ((x0,x1,x2,x3,x4,x5,x6,x7,x8,x9,x10,x11,x12,x13,x14),(i,op,a,b),es)=some (frt (Np x0 x1 x2 x3 x4 x14 i op a b es)):=by
 have hm:maxLen=9223372036854775807:=by decide
 show Dk BIG _=_;rw [ac6];dsimp only;rw [aqD es (by omega) (mk:=fun (s:Hd × List Ed) (j:Int)=>((s.1,s.2,j):Hd × List Ed × Int)) (I:=fun j (s:Hd × List Ed)=>s.1=(x0,x1,x2,x3,x4,x5,x6,x7,x8,x9,x10,x11,x12,x13,x14)/\s.2.length<=66+j) (st:=fun s e=>(xD s.2 e).map fun c=>(s.1,c)) (R:=id) (b:=((1,(x0,x1,x2,x3,x4,0,0,0,0,0,0,0,[],0,x14++[(i,i,op,a,b,3)])):Int × Hd)) (s0:=((x0,x1,x2,x3,x4,x5,x6,x7,x8,x9,x10,x11,x12,x13,x14),x2)) ⟨rfl,by simp only;omega⟩ (fun j s s' y hy ⟨k1,k2⟩ hst => ?_) (fun self s j y hy ⟨k1,k2⟩ => ?_) (fun self s hs=>by simp)]
 ·have hfm:∀(l:List Ed) (h:Hd) (c:List Ed),fM (fun (s:Hd × List Ed) e=>(xD s.2 e).map fun c=>(s.1,c)) (h,c) l=(fM xD c l).map fun c=>(h,c):=by
   intro l h;induction l with
   | nil=>intro c;rfl
   | cons e l ih=>
    intro c;rw [fM,fM];simp only;cases xD c e with
    | none=>rfl
    | some c'=>simp only [Option.map_some,ae,ih]
  rw [hfm];unfold Np;by_cases hno:∀e,e∈es->e∉x2
  ·rw [if_pos hno];obtain ⟨s',hs'⟩:=am6 (s:=x2) (Ca he.1) hno;have hse:=abZ hs';rw [hs'];have hs2:s'=lW x2 es:=hse;subst hs2;have hai:a.toNat<x1.length:=by omega
   have hCl:=RO x2 es;have hIl:(jD x1 x2 es a b).length<=(lW x2 es).length:=List.length_filter_le _ _;simp only [Option.map_some,id,ae];rw [bn ha.1 (by omega),aO hai,ae,akc _ _ _ (by rw [jH];omega) (by omega),ae];have e1:List.filter (AU (x1.set a.toNat b) b) (lW x2 es)=jD x1 x2 es a b:=rfl;simp only [e1];rw [gQ (jD x1 x2 es a b) (by omega) (fun j (s:List Ed)=>s.length<=132) del id (by omega) (fun j s y hy hs=>by
    have:=UQ s y
    omega) (fun self s j y hy hs => ?_) (fun self s _=>by simp)]
   ·simp only [id,ae];by_cases hI:(jD x1 x2 es a b).length=0
    ·rw [ai (by omega),ah,if_pos hI,List.length_eq_zero_iff.1 hI,ap4 _ _ _ _ _ _ _ _ _ _ _ _ _ _ _ _ _ _ _ _ (by omega)];rfl
    ·rw [au (by omega),aj,if_neg hI,aqI _ _ _ _ _ _ _ _ _ _ _ _ _ _ _ _ _ _ _ _ _ _ _ _ (by omega) hb.1 (by omega) (hn _ (by omega))];rfl
   ·have hj:=(aS hy).1;simp only [show ((j:Int)<((jD x1 x2 es a b).length:Int)) from by omega,decide_true,ah];rw [aB hj,hy,ae,xe _ _ (by omega),ae,bE (by omega)]
  ·rw [if_neg hno];have hnone:fM xD x2 es=none:=by
    cases hf:fM xD x2 es with
    | none=>rfl
    | some s'=>exact absurd (afe hf).2.1 hno
   rw [hnone];rfl
 ·obtain ⟨h,c⟩:=s;simp only at k1 k2 hst;cases hc:xD c y with
  | none=>rw [hc] at hst;cases hst
  | some c'=>
   rw [hc] at hst;simp only [Option.map_some,aK] at hst;subst hst;obtain ⟨_,rfl⟩:=RL hc;have:=UR c y;exact ⟨k1,by simp only;omega⟩
 ·obtain ⟨h,c⟩:=s;simp only at k1 k2;subst k1;have hj:=(aS hy).1;simp only [show ((j:Int)<(es.length:Int)) from by omega,decide_true,ah];rw [aB hj,hy,ae,wI _ _ (by omega),ae,bE (by omega)];unfold xD;by_cases hin:y∈c
  ·rw [ai hin,ah,ap4 _ _ _ _ _ _ _ _ _ _ _ _ _ _ _ _ _ _ _ _ (by omega),if_pos hin];rfl
  ·rw [au hin,aj,if_neg hin,aB hj,hy,ae,Nf _ _ (by omega),ae];rfl
end
noncomputable def A8 (x0:Int) (x1:List Int) (x2:List Ed) (x3:List (List Int)) (x4:List Int) (x5 x6 x7 x8 x9 x10 x11:Int) (x12:List Ed) (x13:Int) (x14:List Sd) (sh:Int) (y:An):Bool:=
 oI x0 x1 x2 x3 x4 x14 (mY x0 x3.length x4 x14 x5 x6 x7 x8 x9 (x10,x11,x12,x13))&&(lq x0 y&&(!decide (x9=0)&&(decide (sh=x9)&&decide (y.1=x10))))
def heM (x0:Int) (x1:List Int) (x2:List Ed) (x3:List (List Int)) (x4:List Int) (x14:List Sd) (i op a b q:Int) (ok:Bool) (es:List Ed):JO:=
 if op=4 then (if q=3 then Np x0 x1 x2 x3 x4 x14 i op a b es else Jo x0 x1 x2 x3 x4 x14 i op a b 1)
 else Jo x0 x1 x2 x3 x4 x14 i op a b (if ok then 1 else 2)
noncomputable def heR (x0:Int) (x1:List Int) (x2:List Ed) (x3:List (List Int)) (x4:List Int) (x5 x6 x7 x8 x9 x10 x11:Int) (x12:List Ed) (x13:Int) (x14:List Sd) (sh:Int) (y:An):JO:=
 if A8 x0 x1 x2 x3 x4 x5 x6 x7 x8 x9 x10 x11 x12 x13 x14 sh y=true then heM x0 x1 x2 (x3.set (sh-1).toNat y.2.2.2) (x4.set (sh-1).toNat y.1) x14 x5 x6 x7 x8 x11 y.2.1 y.2.2.1 else (x0,x1,x2,x3,x4,x5,x6,x7,x8,x9,x10,x11,x12,x13,x14,0)
theorem afn {x0:Int} {x1:List Int} {x2:List Ed} {x3:List (List Int)} {x4:List Int} {x5 x6 x7 x8 x9 x10 x11:Int} {x12:List Ed} {x13:Int} {x14:List Sd} {sh:Int} {y:An} (h:A8 x0 x1 x2 x3 x4 x5 x6 x7 x8 x9 x10 x11 x12 x13 x14 sh y=true) :
  HdF x0 x1 x2 x3 x4 x14/\lq x0 y=true/\sh=x9/\(1<=sh/\sh<=x3.length)/\qJ x0 x3.length x6 x7 x8=true:=by
 unfold A8 at h;simp only [aP,decide_eq_true_eq,Bool.not_eq_true',decide_eq_false_iff_not] at h;obtain ⟨h1,h2,h3,h4,h5⟩:=h;obtain ⟨hF,ht⟩:=ap3 h1;unfold mY at ht;rw [Bool.or_eq_true] at ht;rcases ht with ht|ht
 ·unfold tB at ht;simp only [aP,decide_eq_true_eq] at ht;exact absurd ht.2.1 h3
 ·simp only [aP,aQ] at ht;exact ⟨hF,h2,h4,by rw [h4];exact ht.2.1,ht.1.2.2⟩
theorem P5 {l:List Int} {i:Nat} {v:Int} (h:∀j,j<l.length->0<=l.getD j 0/\l.getD j 0<=1000000) (hv:0<=v/\v<=1000000):∀j,j<(l.set i v).length->0<=(l.set i v).getD j 0/\(l.set i v).getD j 0<=1000000:=by
 intro j hj;rw [jH] at hj;by_cases hij:i=j
 ·subst hij;rw [gD (List.getElem?_set_self hj)];exact hv
 ·rw [gD ((List.getElem?_set_ne hij).trans (getD_at hj))];exact h j hj
section
variable {x0:Int} {x1:List Int} {x2:List Ed} {x3:List (List Int)} {x4:List Int} {x14:List Sd} (i op a b:Int) (es:List Ed)
theorem ama (h2:x2.length<=66) (he:es.length<=66) (h1:x1.length<=12) (h14:x14.length<=80) :
  ∃(w c:_) (t1 t2 t3 t4 t5 t6 t7:Int) (t8:List Ed) (t9:Int) (s:List Sd) (m:Int),Np x0 x1 x2 x3 x4 x14 i op a b es=(x0,w,c,x3,x4,t1,t2,t3,t4,t5,t6,t7,t8,t9,s,m)/\w.length<=12/\c.length<=132/\t8.length<=132/\s.length<=81:=by
 have hCl:=RO x2 es;have hIl:(jD x1 x2 es a b).length<=(lW x2 es).length:=List.length_filter_le _ _;have hd:=YV (jD x1 x2 es a b) (lW x2 es);unfold Np;split
 ·split
  ·exact ⟨_,_,_,_,_,_,_,_,_,_,_,_,_,rfl,by rw [jH];exact h1,by omega,by simp,by simp;omega⟩
  ·exact ⟨_,_,_,_,_,_,_,_,_,_,_,_,_,rfl,by rw [jH];exact h1,by omega,by omega,by omega⟩
 ·exact ⟨_,_,_,_,_,_,_,_,_,_,_,_,_,rfl,h1,by omega,by simp,by simp;omega⟩
end
section
variable (x0:Int) (x1:List Int) (x2:List Ed) (x3:List (List Int)) (x4:List Int) (x5 x6 x7 x8 x9 x10 x11:Int) (x12:List Ed) (x13:Int) (x14:List Sd) (sh:Int) (y0:Int) (y1:Bool) (y2:List Ed) (y3:List Int) (h1:x1.length<=1048576) (h2:x2.length<=1048576) (h3:x3.length<=1048576/\∀y,y∈x3->y.length<=1048576) (h4:x4.length<=1048576) (h12:x12.length<=1048576) (h14:x14.length<=1048576) (hy2:y2.length<=1048576) (hy3:y3.length<=1048576)
include h1 h2 h3 h4 h12 h14 hy2 hy3
theorem aog:Fp ((x0,x1,x2,x3,x4,x5,x6,x7,x8,x9,x10,x11,x12,x13,x14),sh,(y0,y1,y2,y3))=some (heR x0 x1 x2 x3 x4 x5 x6 x7 x8 x9 x10 x11 x12 x13 x14 sh (y0,y1,y2,y3),()):=by
 have hm:maxLen=9223372036854775807:=by decide
 show Wm BIG _=_;rw [an6,PZ x0 x1 x2 x3 x4 x5 x6 x7 x8 x9 x10 x11 x12 x13 x14 h1 h2 h3 h4 h12 h14,ae];dsimp only;rw [Nj x0 x1 x2 x3 x4 x5 x6 x7 x8 x9 x10 x11 x12 x13 x14 h1 h2 h3 h12 h14,PV x0 (y0,y1,y2,y3) hy2 hy3,Wp];have hx:(Option.bind (some (oI x0 x1 x2 x3 x4 x14 (mY x0 x3.length x4 x14 x5 x6 x7 x8 x9 (x10,x11,x12,x13)),())) fun r1:Bool × Unit=>
   bif !r1.1 then some true else Option.bind (some (lq x0 (y0,y1,y2,y3),())) fun r2:Bool × Unit=>bif !r2.1 then some true else Option.bind (some (!decide (x9=0),())) fun r3:Bool × Unit=>bif !r3.1 then some true else bif !decide (sh=x9) then some true else some (!decide (y0=x10)))=some (!A8 x0 x1 x2 x3 x4 x5 x6 x7 x8 x9 x10 x11 x12 x13 x14 sh (y0,y1,y2,y3)):=by
  unfold A8;simp only [ae];cases oI x0 x1 x2 x3 x4 x14 (mY x0 x3.length x4 x14 x5 x6 x7 x8 x9 (x10,x11,x12,x13))<;>cases lq x0 (y0,y1,y2,y3)<;>cases decide (x9=0)<;>cases decide (sh=x9)<;>cases decide (y0=x10)<;>rfl
 refine (congrArg (fun o=>Option.bind o _) hx).trans ?_;unfold heR;cases hok:A8 x0 x1 x2 x3 x4 x5 x6 x7 x8 x9 x10 x11 x12 x13 x14 sh (y0,y1,y2,y3) with
 | false=>rfl
 | true=>
  obtain ⟨hF,hA,hs,hsr,hr⟩:=afn hok;obtain ⟨r1,r2,r3,r4⟩:=Y7 hr;obtain ⟨a1,a2,a3,a4,a5,a6,a7⟩:=aff hA;have hcl:=jJ hF.cuts;have hel:=jJ a5;have hsd:=hF.said;have hk:=hF.k;have hnum:=hF.nums;have hn4:=P5 (l:=x4) (i:=(sh-1).toNat) (fun j hj=>by have:=(hF.o3 j (by omega)).2;omega) (show 0<=y0/\y0<=1000000 by simp only at a3 a4;omega);have e4:x4[(sh-1).toNat]?=some (x4.getD (sh-1).toNat 0):=getD_at (by omega);have e3:=aO (l:=x3) (i:=(sh-1).toNat) (by omega);simp only [aZ,ae,aj,if_true];rw [wr (n:=sh-1) (by omega) (by omega),bn (by omega) (by omega),e4,ae,vO y3 hy3,ae,bn (by omega) (by omega),e3,ae];unfold heM;by_cases h6:x6=4
  ·subst h6;simp only [decide_true,aZ,aj,if_true];by_cases h11:x11=3
   ·rw [ai h11,ah,if_pos h11,RP _ _ _ _ _ _ _ _ _ _ _ hF.n hF.own ⟨(ik hF.cuts).2.1,by omega⟩ (by rw [jH];omega) (by rw [jH,jH];omega) (by omega) ⟨(ik a5).2.1,by omega⟩ r2 (by rw [jH];exact r3 rfl) hn4];rfl
   ·rw [au h11,aj,if_neg h11,gy _ _ _ _ _ _ _ _ _ _ _ _ _ _ (by omega)];rfl
  ·simp only [au h6,dM,ah,if_neg h6];rw [abO,ae,gy _ _ _ _ _ _ _ _ _ _ _ _ _ _ (by omega)];rfl
theorem aoh:uG ((x0,x1,x2,x3,x4,x5,x6,x7,x8,x9,x10,x11,x12,x13,x14),sh,(y0,y1,y2,y3))=some (heR x0 x1 x2 x3 x4 x5 x6 x7 x8 x9 x10 x11 x12 x13 x14 sh (y0,y1,y2,y3),()):=by
 have hm:maxLen=9223372036854775807:=by decide
 show VN BIG _=_;rw [anU,Jn x0 x1 x2 x3 x4 x5 x6 x7 x8 x9 x10 x11 x12 x13 x14 h1 h2 h3 h4 h12 h14,ae];dsimp only;rw [Nk x0 x1 x2 x3 x4 x5 x6 x7 x8 x9 x10 x11 x12 x13 x14 h1 h2 h3 h12 h14,PW x0 (y0,y1,y2,y3) hy2 hy3,Wq];have hx:(Option.bind (some (oI x0 x1 x2 x3 x4 x14 (mY x0 x3.length x4 x14 x5 x6 x7 x8 x9 (x10,x11,x12,x13)),())) fun r1:Bool × Unit=>
   bif !r1.1 then some true else Option.bind (some (lq x0 (y0,y1,y2,y3),())) fun r2:Bool × Unit=>bif !r2.1 then some true else Option.bind (some (!decide (x9=0),())) fun r3:Bool × Unit=>bif !r3.1 then some true else bif !decide (sh=x9) then some true else some (!decide (y0=x10)))=some (!A8 x0 x1 x2 x3 x4 x5 x6 x7 x8 x9 x10 x11 x12 x13 x14 sh (y0,y1,y2,y3)):=by
  unfold A8;simp only [ae];cases oI x0 x1 x2 x3 x4 x14 (mY x0 x3.length x4 x14 x5 x6 x7 x8 x9 (x10,x11,x12,x13))<;>cases lq x0 (y0,y1,y2,y3)<;>cases decide (x9=0)<;>cases decide (sh=x9)<;>cases decide (y0=x10)<;>rfl
 refine (congrArg (fun o=>Option.bind o _) hx).trans ?_;unfold heR;cases hok:A8 x0 x1 x2 x3 x4 x5 x6 x7 x8 x9 x10 x11 x12 x13 x14 sh (y0,y1,y2,y3) with
 | false=>rfl
 | true=>
  obtain ⟨hF,hA,hs,hsr,hr⟩:=afn hok;obtain ⟨r1,r2,r3,r4⟩:=Y7 hr;obtain ⟨a1,a2,a3,a4,a5,a6,a7⟩:=aff hA;have hcl:=jJ hF.cuts;have hel:=jJ a5;have hsd:=hF.said;have hk:=hF.k;have hnum:=hF.nums;have hnn:=hF.n;have hown:=hF.own;have hn4:=P5 (l:=x4) (i:=(sh-1).toNat) (fun j hj=>by have:=(hF.o3 j (by omega)).2;omega) (show 0<=y0/\y0<=1000000 by simp only at a3 a4;omega);have e4:x4[(sh-1).toNat]?=some (x4.getD (sh-1).toNat 0):=getD_at (by omega);have e3:=aO (l:=x3) (i:=(sh-1).toNat) (by omega);have h3':(x3.set (sh-1).toNat y3).length<=1048576/\∀y,y∈x3.set (sh-1).toNat y3->y.length<=1048576:=⟨by rw [jH];omega,fun y hy=>by
   rcases List.mem_or_eq_of_mem_set hy with hy|rfl
   ·exact h3.2 y hy
   ·exact hy3⟩
  simp only [aZ,ae,aj,if_true];rw [wr (n:=sh-1) (by omega) (by omega),bn (by omega) (by omega),e4,ae,ai (by simp;omega),ah,bn (by omega) (by omega),e3,ae];simp only [List.nil_append];unfold heM;by_cases h6:x6=4
  ·subst h6;simp only [decide_true,aZ,ah,aj,if_true,ae];by_cases h11:x11=3
   ·simp only [ai h11,ah,if_pos h11];rw [adJ _ _ _ _ _ _ _ _ _ _ _ _ _ _ _ _ _ _ _ _ hF.n hF.own ⟨(ik hF.cuts).2.1,by omega⟩ (by rw [jH];omega) (by rw [jH,jH];omega) (by omega) ⟨(ik a5).2.1,by omega⟩ r2 (by rw [jH];exact r3 rfl) hn4,ae];obtain ⟨w,c,t1,t2,t3,t4,t5,t6,t7,t8,t9,s,m,e,l1,l2,l3,l4⟩:=ama (x0:=x0) (x1:=x1) (x2:=x2) (x3:=x3.set (sh-1).toNat y3) (x4:=x4.set (sh-1).toNat y0) (x14:=x14) x5 4 x7 x8 y2 (by omega) (by show y2.length<=66;exact hel) (by omega) (by omega);rw [e];simp only [frt];rw [Jn _ _ _ _ _ _ _ _ _ _ _ _ _ _ _ (by omega) (by omega) h3' (by rw [jH];omega) (by omega) (by omega),ae]
   ·simp only [au h11,aj,if_neg h11];rw [jl _ _ _ _ _ _ _ _ _ _ _ _ _ _ (by omega)];rfl
  ·simp only [au h6,dM,ah,aj,if_neg h6,ae];cases y1 with
   | true=>
    simp only [aZ,aj,ae,if_true];rw [jl _ _ _ _ _ _ _ _ _ _ _ _ _ _ (by omega)];rfl
   | false=>
    simp only [dM,ah,ae,Bool.false_eq_true,if_false];rw [jl _ _ _ _ _ _ _ _ _ _ _ _ _ _ (by omega)];rfl
end
inductive FT where
 | nil
 | nd (v:Int) (c s:FT)
def FT.vs:FT->List Int
 | .nil=>[]
 | .nd v c s=>v::(c.vs++s.vs)
def FT.sg:FT->Int->List Int
 | .nil,_=>[]
 | .nd v c s,r=>v::(c.sg v++r::s.sg r)
def FT.app:FT->FT->FT
 | .nil,g=>g
 | .nd v c s,g=>.nd v c (s.app g)
def tr (v:Int) (c:FT):List Int:=v::c.sg v
theorem aky (r:Int) (g:FT):∀f:FT,(f.app g).sg r=f.sg r++g.sg r
 | .nil=>rfl
 | .nd v c s=>by
  have:=aky r g s;simp [FT.app,FT.sg,this]
theorem akz (g:FT):∀f:FT,(f.app g).vs=f.vs++g.vs
 | .nil=>rfl
 | .nd v c s=>by
  have:=akz g s;simp [FT.app,FT.vs,this]
theorem UT:∀(f:FT) (r:Int),(f.sg r).length=2*f.vs.length
 | .nil,_=>rfl
 | .nd v c s,r=>by
  have:=UT c v;have:=UT s r;simp only [FT.sg,FT.vs,bA,bZ];omega
theorem tJ (v:Int) (c:FT):(tr v c).length=2*c.vs.length+1:=by
 simp [tr,UT]
theorem ab2:∀(f:FT) (r x:Int),x∈f.sg r↔x∈f.vs\/(x=r/\f.vs≠[])
 | .nil,r,x=>by simp [FT.sg,FT.vs]
 | .nd v c s,r,x=>by
  have h1:=ab2 c v x;have h2:=ab2 s r x;simp only [FT.sg,FT.vs,List.mem_cons,List.mem_append,h1,h2];constructor
  ·rintro (h | (h|⟨h,_⟩)|h|h|⟨h,_⟩)
   ·exact .inl (.inl h)
   ·exact .inl (.inr (.inl h))
   ·exact .inl (.inl h)
   ·exact .inr ⟨h,by simp⟩
   ·exact .inl (.inr (.inr h))
   ·exact .inr ⟨h,by simp⟩
  ·rintro ((h|h|h)|⟨h,_⟩)
   ·exact .inl h
   ·exact .inr (.inl (.inl h))
   ·exact .inr (.inr (.inr (.inl h)))
   ·exact .inr (.inr (.inl h))
theorem tK (v:Int) (c:FT) (x:Int):x∈tr v c↔x∈v::c.vs:=by
 simp only [tr,List.mem_cons,ab2];constructor
 ·rintro (h|h|⟨h,_⟩)
  ·exact .inl h
  ·exact .inr h
  ·exact .inl h
 ·rintro (h|h)
  ·exact .inl h
  ·exact .inr (.inl h)
def oU (s:List Int × List Int) (v:Int):Option (List Int × List Int):=
 if 1<s.1.length/\s.1.getD (s.1.length-2) 0=v then some (s.1.take (s.1.length-1),s.2)
 else if (0<=v/\v<=11)/\v∉s.2 then some (s.1++[v],s.2++[v]) else none
theorem UU {S α:Type} (st:S->α->Option S):∀(a b:List α) (s:S),fM st s (a++b)=(fM st s a).bind fun s'=>fM st s' b
 | [],b,s=>rfl
 | x::a,b,s=>by
  rw [List.cons_append,fM,fM];cases st s x with
  | none=>rfl
  | some s'=>simp only [ae,UU st a b]
theorem ab3:∀(f:FT) (r:Int) (P M:List Int),(∀x,x∈P->x∈M)->(∀x,x∈f.vs->x∉M)->f.vs.Nodup->(∀x,x∈f.vs->0<=x/\x<=11)->r∈M->fM oU (P++[r],M) (f.sg r)=some (P++[r],M++f.vs)
 | .nil,r,P,M,_,_,_,_,_=>by simp [FT.sg,FT.vs,fM]
 | .nd v c s,r,P,M,hP,hd,hn,hr,hrM=>by
  simp only [FT.vs] at hd hn hr ⊢
  rw [List.nodup_cons,List.mem_append,not_or,List.nodup_append] at hn
  obtain ⟨⟨n1,n2⟩,n3,n4,n5⟩:=hn
  have hv:=hd v (List.mem_cons_self ..)
  have s1:oU (P++[r],M) v=some (P++[r]++[v],M++[v]):=by
   unfold oU;rw [if_neg,if_pos ⟨hr v (List.mem_cons_self ..),hv⟩];rintro ⟨g1,g2⟩;simp only [bZ,bA,List.length_nil] at g1 g2;have hlt:P.length+(0+1)-2<P.length:=by omega
   have:(P++[r])[P.length+(0+1)-2]?=some P[P.length+(0+1)-2]:=by
    rw [List.getElem?_append_left hlt,aO hlt]
   rw [gD this] at g2;exact hv (hP v (by rw [<-g2];exact List.getElem_mem _))
  have s2:=ab3 c v (P++[r]) (M++[v]) (fun x hx=>by
   rw [List.mem_append,List.mem_singleton] at hx ⊢
   rcases hx with hx|rfl
   ·exact .inl (hP x hx)
   ·exact .inl hrM) (fun x hx hm=>by
   rw [List.mem_append,List.mem_singleton] at hm
   rcases hm with hm|rfl
   ·exact hd x (List.mem_cons_of_mem _ (List.mem_append_left _ hx)) hm
   ·exact n1 hx) n3 (fun x hx=>hr x (List.mem_cons_of_mem _ (List.mem_append_left _ hx))) (by simp)
  have s3:oU (P++[r]++[v],M++[v]++c.vs) r=some (P++[r],M++[v]++c.vs):=by
   unfold oU
   rw [if_pos]
   ·have:(P++[r]++[v]).take ((P++[r]++[v]).length-1)=P++[r]:=by
     rw [show (P++[r]++[v]).length-1=(P++[r]).length from by simp,List.take_left]
    simp only
    rw [this]
   ·simp only [bZ,bA,List.length_nil]
    refine ⟨by omega,?_⟩
    have:(P++[r]++[v])[P.length+(0+1)+(0+1)-2]?=some r:=by
     rw [List.getElem?_append_left (by simp),show P.length+(0+1)+(0+1)-2=P.length from by omega]
     simp
    exact gD this
  have s4:=ab3 s r P (M++[v]++c.vs) (fun x hx=>by simp [hP x hx]) (fun x hx hm=>by
   rw [List.mem_append,List.mem_append,List.mem_singleton] at hm
   rcases hm with (hm|rfl)|hm
   ·exact hd x (List.mem_cons_of_mem _ (List.mem_append_right _ hx)) hm
   ·exact n2 hx
   ·exact n5 x hm x hx rfl) n4 (fun x hx=>hr x (List.mem_cons_of_mem _ (List.mem_append_right _ hx))) (by simp [hrM])
  simp only [FT.sg]
  rw [fM,s1,ae,UU,s2,ae,fM,s3,ae,s4]
  simp
structure TrOk (v:Int) (c:FT):Prop where
 nd:(v::c.vs).Nodup
 rg:∀x,x∈v::c.vs->0<=x/\x<=11
theorem qg:∀(n:Nat) (l:List Int),l.Nodup->(∀x,x∈l->0<=x/\x<n)->l.length<=n
 | 0,l,_,h=>by
  cases l with
  | nil=>simp
  | cons x l=>have:=h x (List.mem_cons_self ..);omega
 | n+1,l,hn,h=>by
  have h1:=qg n (l.erase (n:Int)) (hn.erase _) (fun x hx=>by
   have h2:=(hn.mem_erase_iff).1 hx
   have:=h x h2.2
   have:=h2.1
   omega)
  have h2:=List.length_erase (a:=(n:Int)) (l:=l);split at h2
  ·rw [h2] at h1;omega
  ·rw [h2] at h1;omega
theorem TrOk.len {v:Int} {c:FT} (h:TrOk v c):c.vs.length<=11:=by
 have:=qg 12 (v::c.vs) h.nd (fun x hx=>by have:=h.rg x hx;omega);simp only [bA] at this;omega
theorem TrOk.run {v:Int} {c:FT} (h:TrOk v c):fM oU ([v],[v]) (c.sg v)=some ([v],v::c.vs):=by
 have hn:=h.nd;rw [List.nodup_cons] at hn;have:=ab3 c v [] [v] (by simp) (fun x hx hm=>by rw [List.mem_singleton] at hm;subst hm;exact hn.1 hx) hn.2 (fun x hx=>h.rg x (List.mem_cons_of_mem _ hx)) (by simp);simpa using this
theorem tL {α B:Type} (a:List α) (hl:a.length<18446744073709551616) (p:α->Bool) (b:B) {F:(Int->Option (Unit ⊕ B))->Int->Option (Unit ⊕ B)}
  (hF:∀self (i:Nat) y,a[i]?=some y->F self (i:Int)=if p y then some (.inr b) else self ((i+1:Nat):Int))
  (hE:∀self,F self (a.length:Int)=some (.inl ())):aI BIG F 0=some (if a.any p=true then .inr b else .inl ()):=by
 refine ig (fun (x:Int)=>∃i:Nat,x=(i:Int)/\i<=a.length/\∀j (hj:j<a.length),j<i->p a[j]=false) (fun x=>a.length-x.toNat) (fun _=>_) (fun self x ⟨i,h1,h2,h3⟩ hs => ?_) (n:=BIG) (x:=0) (by simp;exact hl) ⟨0,rfl,by simp,fun j _ hj=>by omega⟩;subst h1;by_cases hi:i<a.length
 ·rw [hF self i a[i] (aO hi)];cases hp:p a[i] with
  | true=>rw [if_pos rfl,if_pos (List.any_eq_true.2 ⟨a[i],List.getElem_mem hi,hp⟩)]
  | false=>
   rw [if_neg (by simp)];refine hs _ ⟨i+1,rfl,hi,fun j hj hji => ?_⟩ (by simp;omega);by_cases hij:j=i
   ·subst hij;exact hp
   ·exact h3 j hj (by omega)
 ·have:i=a.length:=by omega
  subst this;rw [hE,if_neg];intro h;obtain ⟨y,hy,hp⟩:=List.any_eq_true.1 h;obtain ⟨j,hj,rfl⟩:=List.getElem_of_mem hy;rw [h3 j hj hj] at hp;cases hp
structure Fo (n:Nat) (es:List Ed) (pa:Int->Int->Prop) (rk:Int->Nat):Prop where
 rg:∀{a b},pa a b->(0<=a/\a<n)/\(0<=b/\b<n)
 ad:∀u v,((if v<u then (v,u) else (u,v))∈es)↔(pa u v\/pa v u)
 un:∀{a a' b},pa a b->pa a' b->a=a'
 up:∀{a b},pa a b->rk a<rk b
section
variable {n:Nat} {es:List Ed} {pa:Int->Int->Prop} {rk:Int->Nat} (F:Fo n es pa rk)
include F
def Nb (pa:Int->Int->Prop) (v fr u:Int):Prop:=u≠fr/\(pa u v\/pa v u)
omit F in
theorem ahM {l:List Bool} {i j:Nat} (hi:i<l.length):(l.set i true).getD j false=true↔l.getD j false=true\/j=i:=by
 by_cases h:i=j
 ·subst h;rw [gD (List.getElem?_set_self hi)];simp
 ·simp only [bJ,List.getElem?_set_ne h];constructor
  ·exact .inl
  ·rintro (h'|h')
   ·exact h'
   ·exact absurd h'.symm h
end
section
variable {r:Int} {F:FT} {k:Nat} {X:List Int} {p w:Int} {C:FT} {Y:List Int} {F':FT}
end
end Go.Fw
