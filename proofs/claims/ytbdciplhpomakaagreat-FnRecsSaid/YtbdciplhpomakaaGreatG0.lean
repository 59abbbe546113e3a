/- A way of showing what a function computes: the blocks of the heap are owned by the places that hold them; this is a part of it. No conditions. -/
import Derived.Calls
import Derived.IntWalk
import Derived.KernelRfl
set_option linter.unusedVariables false
set_option linter.unusedSimpArgs false
set_option linter.unusedSectionVars false
namespace Go.Fw
theorem aa {α β:Type _} (a:α) (f:α→Option β):Option.bind (some a) f=f a:=rfl
theorem aR {α:Type _} {l:List α} {i:Nat} (h:i<l.length):l[i]?=some l[i]:=List.getElem?_eq_getElem h
theorem aY {α:Type _} {l:List α} {i:Nat} {a:α} (h:l[i]?=some a):∃h:i<l.length,l[i]=a:=List.getElem?_eq_some_iff.1 h
theorem ah {p:Prop} [Decidable p] (h:p):decide p=true:=decide_eq_true h
theorem au {p:Prop} [Decidable p] (h:¬p):decide p=false:=decide_eq_false h
theorem aj {α:Sort _} (a b:α):cond false a b=b:=rfl
theorem ai {α:Sort _} (a b:α):cond true a b=a:=rfl
theorem aF {α:Type _} (a b:α):(some a=some b)=(a=b):=Option.some.injEq a b
theorem aG (a b:Bool):((a&&b)=true)=(a=true/\b=true):=Bool.and_eq_true a b
theorem dC (n:Nat):(n:Int).toNat=n:=rfl
theorem bq {α:Type _} {a b:List α}:(a++b).length=a.length+b.length:=List.length_append
theorem aX {α:Type _} {a:α} {l:List α}:(a::l).length=l.length+1:=rfl
theorem mg {α:Type _} {l:List α} {i:Nat} {a:α}:(l.set i a).length=l.length:=List.length_set
theorem bN {α:Type _} {l:List α} {i:Nat} {a:α}:l.getD i a=(l[i]?).getD a:=List.getD_eq_getElem?_getD
theorem bz:(!true)=false:=rfl
theorem ik:(!false)=true:=rfl
inductive A where
 | v (x:Value)
 | s (xs:List (List A))
inductive Md where
 | own (pin:Option (Nat × Nat))
 | ro (S:List Nat)
 | dead
 deriving DecidableEq
inductive CT where
 | d
 | sl (m:Md) (e:List CT)
abbrev Pl:=Nat × List Nat
abbrev aH:=Nat->Option Pl
def Pl.at (p:Pl) (j:Nat):Pl:=(p.1,p.2++[j])
def aW (κ:aH) (w:World) (S:List Nat) (b:Nat):Prop:=b<w.heap.size/\∀r p,κ b=some (r,p)->r∈S/\p≠[]
def cellD (w:World) (b o:Nat):Value:=(w.cell? ⟨b,o,none⟩).getD undef
def sc:Value->Bool
 | .bool _ | .int _ _ | .string _=>true
 | _=>false
def Rdb (w:World) (b lo hi:Nat):Prop:=∀o,lo<=o->o<hi->∃x,w.cell? ⟨b,o,none⟩=some x
def Wrb (w:World) (b lo hi:Nat):Prop:=∀o,lo<=o->o<hi->(∃x,w.cell? ⟨b,o,none⟩=some x)/\w.frozen? ⟨b,o,none⟩=false
mutual
def RC (κ:aH) (w:World):CT->Pl->Value->A->Prop
 | .d,_,x,.v y=>x=y/\sc y=true
 | .sl (.own _) e,p,x,.s xs=>∃ao cap,x = .slice ao xs.length cap/\xs.length<=cap /\
   ((ao=none/\cap=0)\/∃b o,ao=some ⟨b,o,none⟩/\b<w.heap.size/\κ b=some p/\Wrb w b o (o+cap*e.length)/\bO κ w e p 0 (fun j=>cellD w b (o+j)) xs)
 | .sl (.ro S) e,p,x,.s xs=>∃ao cap,x = .slice ao xs.length cap/\xs.length<=cap /\
   (xs=[]\/∃b o,ao=some ⟨b,o,none⟩/\aW κ w S b/\Rdb w b o (o+xs.length*e.length)/\bO κ w e p 0 (fun j=>cellD w b (o+j)) xs)
 | .sl .dead _,_,_,_=>True
 | _,_,_,_=>False
def ax (κ:aH) (w:World):List CT->Pl->Nat->(Nat->Value)->List A->Prop
 | [],_,_,_,[]=>True
 | c::cs,p,j,get,a::as=>RC κ w c (p.at j) (get j) a/\ax κ w cs p (j+1) get as
 | _,_,_,_,_=>False
def bO (κ:aH) (w:World):List CT->Pl->Nat->(Nat->Value)->List (List A)->Prop
 | _,_,_,_,[]=>True
 | e,p,j,get,x::xs=>ax κ w e p j get x/\bO κ w e p (j+e.length) get xs
end
mutual
def CT.mapS (f:List Nat->List Nat):CT->CT
 | .d=>.d
 | .sl (.ro S) e=>.sl (.ro (f S)) (CT.mapSs f e)
 | .sl m e=>.sl m (CT.mapSs f e)
def CT.mapSs (f:List Nat->List Nat):List CT->List CT
 | []=>[]
 | c::cs=>c.mapS f::CT.mapSs f cs
end
mutual
def CT.roize (S:List Nat):CT->CT
 | .d=>.d
 | .sl _ e=>.sl (.ro S) (CT.roizes S e)
def CT.roizes (S:List Nat):List CT->List CT
 | []=>[]
 | c::cs=>c.roize S::CT.roizes S cs
end
mutual
def CT.allS (P:List Nat->Prop):CT->Prop
 | .d=>True
 | .sl (.ro S) e=>P S/\CT.allSs P e
 | .sl _ e=>CT.allSs P e
def CT.allSs (P:List Nat->Prop):List CT->Prop
 | []=>True
 | c::cs=>c.allS P/\CT.allSs P cs
end
mutual
def CT.live:CT->Bool
 | .d=>true
 | .sl .dead _=>false
 | .sl _ e=>CT.lives e
def CT.lives:List CT->Bool
 | []=>true
 | c::cs=>c.live&&CT.lives cs
end
theorem dW (f:List Nat->List Nat) (cs:List CT):(CT.mapSs f cs).length=cs.length:=by
 induction cs with
 | nil=>simp [CT.mapSs]
 | cons c cs ih=>simp [CT.mapSs,ih]
theorem bQ (S:List Nat) (cs:List CT):(CT.roizes S cs).length=cs.length:=by
 induction cs with
 | nil=>simp [CT.roizes]
 | cons c cs ih=>simp [CT.roizes,ih]
theorem ao2 (f:List Nat->List Nat):CT.mapS f .d = .d:=by simp [CT.mapS]
theorem alq (f:List Nat->List Nat) (k:Option (Nat × Nat)) (e:List CT):CT.mapS f (.sl (.own k) e) = .sl (.own k) (CT.mapSs f e):=by simp [CT.mapS]
theorem anQ (f:List Nat->List Nat) (S:List Nat) (e:List CT):CT.mapS f (.sl (.ro S) e) = .sl (.ro (f S)) (CT.mapSs f e):=by simp [CT.mapS]
theorem aiC (f:List Nat->List Nat) (e:List CT):CT.mapS f (.sl .dead e) = .sl .dead (CT.mapSs f e):=by simp [CT.mapS]
theorem bU {κ:aH} {w:World}:∀{cs:List CT} {p:Pl} {j:Nat} {get:Nat->Value} {as:List A},ax κ w cs p j get as->as.length=cs.length
 | [],_,_,_,[],_=>rfl
 | c::cs,p,j,get,a::as,h=>by
  simp only [ax] at h;simp [bU h.2]
 | [],_,_,_,_::_,h=>by simp [ax] at h
 | _::_,_,_,_,[],h=>by simp [ax] at h
theorem jA {κ:aH} {w:World} {p:Pl} {get get':Nat->Value}:∀{cs:List CT} {j:Nat} {as:List A},(∀i,j<=i->i<j+cs.length->get' i=get i) ->
  ax κ w cs p j get as->ax κ w cs p j get' as
 | [],_,[],_,_=>by simp [ax]
 | c::cs,j,a::as,hg,h=>by
  simp only [ax] at h ⊢;refine ⟨?_,jA (fun i h1 h2=>hg i (by omega) (by simp;omega)) h.2⟩;rw [hg j (Nat.le_refl _) (by simp)];exact h.1
 | [],_,_::_,_,h=>by simp [ax] at h
 | _::_,_,[],_,h=>by simp [ax] at h
theorem FH {κ:aH} {w:World} {p:Pl} {get get':Nat->Value} {e:List CT}:∀{j:Nat} {xs:List (List A)},(∀i,j<=i->i<j+xs.length*e.length->get' i=get i) ->
  bO κ w e p j get xs->bO κ w e p j get' xs
 | _,[],_,_=>by simp [bO]
 | j,x::xs,hg,h=>by
  simp only [bO] at h ⊢;have hl:(x::xs).length*e.length=xs.length*e.length+e.length:=by simp [Nat.add_mul]
  refine ⟨jA (fun i h1 h2=>hg i h1 (by omega)) h.1,FH (fun i h1 h2=>hg i (by omega) (by omega)) h.2⟩
def Same (w w':World) (b:Nat):Prop:=(b<w.heap.size->b<w'.heap.size)/\∀o x,w.cell? ⟨b,o,none⟩=some x->w'.cell? ⟨b,o,none⟩=some x/\w'.frozen? ⟨b,o,none⟩=w.frozen? ⟨b,o,none⟩
theorem Same.refl (w:World) (b:Nat):Same w w b:=⟨id,fun _ _ h=>⟨h,rfl⟩⟩
theorem Same.rdb {w w':World} {b lo hi:Nat} (h:Same w w' b) (hr:Rdb w b lo hi):Rdb w' b lo hi:=
 fun o h1 h2=>let ⟨x,hx⟩:=hr o h1 h2;⟨x,(h.2 o x hx).1⟩
theorem Same.wrb {w w':World} {b lo hi:Nat} (h:Same w w' b) (hr:Wrb w b lo hi):Wrb w' b lo hi:=
 fun o h1 h2=>let ⟨⟨x,hx⟩,hf⟩:=hr o h1 h2;⟨⟨x,(h.2 o x hx).1⟩,by rw [(h.2 o x hx).2];exact hf⟩
theorem Same.cD {w w':World} {b lo hi o:Nat} (h:Same w w' b) (hr:Rdb w b lo hi) (h1:lo<=o) (h2:o<hi):cellD w' b o=cellD w b o:=by
 obtain ⟨x,hx⟩:=hr o h1 h2;simp [Fw.cellD,hx,(h.2 o x hx).1]
theorem Wrb.rdb {w:World} {b lo hi:Nat} (h:Wrb w b lo hi):Rdb w b lo hi:=fun o h1 h2=>(h o h1 h2).1
theorem Wrb.sub {w:World} {b lo hi lo' hi':Nat} (h:Wrb w b lo hi) (h1:lo<=lo') (h2:hi'<=hi):Wrb w b lo' hi':=fun o g1 g2=>h o (by omega) (by omega)
theorem Rdb.sub {w:World} {b lo hi lo' hi':Nat} (h:Rdb w b lo hi) (h1:lo<=lo') (h2:hi'<=hi):Rdb w b lo' hi':=fun o g1 g2=>h o (by omega) (by omega)
section move
variable {κ κ':aH} {w w':World} {f:List Nat->List Nat} {P:List Nat->Prop}
mutual
theorem Pf (hro:∀S,P S->∀b,aW κ w S b->aW κ' w' (f S) b/\Same w w' b):∀{c:CT} {p p':Pl} {x:Value} {a:A},c.allS P ->
  (∀b q,κ b=some (p.1,p.2++q)->κ' b=some (p'.1,p'.2++q)/\Same w w' b)->RC κ w c p x a->RC κ' w' (c.mapS f) p' x a
 | .d,p,p',x,.v y,_,_,h=>by rw [ao2];simp only [RC] at h ⊢;exact h
 | .sl (.own k) e,p,p',x,.s xs,hs,ho,h=>by
  rw [alq];simp only [RC,CT.allS] at h hs ⊢;obtain ⟨ao,cap,hx,hle,hc⟩:=h;refine ⟨ao,cap,hx,hle,?_⟩;rcases hc with hn|⟨b,o,rfl,hbs,hb,hw,he⟩
  ·exact .inl hn
  ·obtain ⟨hb',hsame⟩:=ho b [] (by simpa using hb);have hr:=hw.rdb;refine .inr ⟨b,o,rfl,hsame.1 hbs,by simpa using hb',by rw [dW];exact hsame.wrb hw,?_⟩;refine FH (fun i _ hi => ?_) (GI hro hs ho he);rw [dW] at hi;have:=Nat.mul_le_mul_right e.length hle;exact hsame.cD hr (by omega) (by omega)
 | .sl (.ro S) e,p,p',x,.s xs,hs,ho,h=>by
  rw [anQ];simp only [RC,CT.allS] at h hs ⊢;obtain ⟨ao,cap,hx,hle,hc⟩:=h;refine ⟨ao,cap,hx,hle,?_⟩;rcases hc with hn|⟨b,o,rfl,hb,hr,he⟩
  ·exact .inl hn
  ·obtain ⟨hb',hsame⟩:=hro S hs.1 b hb;refine .inr ⟨b,o,rfl,hb',by rw [dW];exact hsame.rdb hr,?_⟩;refine FH (fun i _ hi => ?_) (GI hro hs.2 ho he);rw [dW] at hi;exact hsame.cD hr (by omega) (by omega)
 | .sl .dead e,p,p',x,a,_,_,_=>by rw [aiC];cases a<;>simp [RC]
 | .d,_,_,_,.s _,_,_,h=>by simp [RC] at h
 | .sl (.own _) _,_,_,_,.v _,_,_,h=>by simp [RC] at h
 | .sl (.ro _) _,_,_,_,.v _,_,_,h=>by simp [RC] at h
theorem aai (hro:∀S,P S->∀b,aW κ w S b->aW κ' w' (f S) b/\Same w w' b):∀{cs:List CT} {p p':Pl} {j:Nat} {get:Nat->Value} {as:List A},CT.allSs P cs ->
  (∀b q,κ b=some (p.1,p.2++q)->κ' b=some (p'.1,p'.2++q)/\Same w w' b)->ax κ w cs p j get as->ax κ' w' (CT.mapSs f cs) p' j get as
 | [],_,_,_,_,[],_,_,_=>by simp [CT.mapSs,ax]
 | c::cs,p,p',j,get,a::as,hs,ho,h=>by
  simp only [CT.mapSs,CT.allSs,ax] at h hs ⊢;refine ⟨Pf hro hs.1 (fun b q hb => ?_) h.1,aai hro hs.2 ho h.2⟩;have:=ho b (j::q) (by simpa [Pl.at] using hb);simpa [Pl.at] using this
 | [],_,_,_,_,_::_,_,_,h=>by simp [ax] at h
 | _::_,_,_,_,_,[],_,_,h=>by simp [ax] at h
theorem GI (hro:∀S,P S->∀b,aW κ w S b->aW κ' w' (f S) b/\Same w w' b):∀{e:List CT} {p p':Pl} {j:Nat} {get:Nat->Value} {xs:List (List A)},CT.allSs P e ->
  (∀b q,κ b=some (p.1,p.2++q)->κ' b=some (p'.1,p'.2++q)/\Same w w' b)->bO κ w e p j get xs->bO κ' w' (CT.mapSs f e) p' j get xs
 | _,_,_,_,_,[],_,_,_=>by simp [bO]
 | e,p,p',j,get,x::xs,hs,ho,h=>by
  simp only [bO] at h ⊢;rw [dW];exact ⟨aai hro hs ho h.1,GI hro hs ho h.2⟩
end
end move
section look
variable {κ:aH} {w:World} {S:List Nat}
theorem CU {S':List Nat} {b:Nat} (h:aW κ w S b) (hs:∀r,r∈S->r∈S'):aW κ w S' b:=⟨h.1,fun r p hb=>⟨hs r (h.2 r p hb).1,(h.2 r p hb).2⟩⟩
theorem aes {b:Nat} {p:Pl} (hb:b<w.heap.size) (h:κ b=some p) (hp:p.1∈S) (h0:p.2≠[]):aW κ w S b:=⟨hb,fun r q hb=>by rw [h] at hb;cases hb;exact ⟨hp,h0⟩⟩
mutual
theorem amv:∀{c:CT} {p p':Pl} {x:Value} {a:A},c.live=true->p.1∈S->p.2≠[]->c.allS (fun S0=>∀r,r∈S0->r∈S)->RC κ w c p x a->RC κ w (c.roize S) p' x a
 | .d,_,_,_,.v _,_,_,_,_,h=>by simp only [CT.roize,RC] at h ⊢;exact h
 | .sl (.own k) e,p,p',x,.s xs,hl,hp,h0,hs,h=>by
  simp only [CT.roize,RC,CT.allS,CT.live] at h hs hl ⊢;obtain ⟨ao,cap,hx,hle,hc⟩:=h;refine ⟨ao,cap,hx,hle,?_⟩;rcases hc with ⟨rfl,rfl⟩|⟨b,o,rfl,hbs,hb,hw,he⟩
  ·exact .inl (List.length_eq_zero_iff.1 (by omega))
  ·have:=Nat.mul_le_mul_right e.length hle;refine .inr ⟨b,o,rfl,aes hbs hb hp h0,by rw [bQ];exact hw.rdb.sub (Nat.le_refl _) (by omega),?_⟩;exact aaj hl hp hs he
 | .sl (.ro S0) e,p,p',x,.s xs,hl,hp,h0,hs,h=>by
  simp only [CT.roize,RC,CT.allS,CT.live] at h hs hl ⊢;obtain ⟨ao,cap,hx,hle,hc⟩:=h;refine ⟨ao,cap,hx,hle,?_⟩;rcases hc with hn|⟨b,o,rfl,hb,hr,he⟩
  ·exact .inl hn
  ·exact .inr ⟨b,o,rfl,CU hb hs.1,by rw [bQ];exact hr,aaj hl hp hs.2 he⟩
 | .sl .dead e,_,_,_,_,hl,_,_,_,_=>by simp [CT.live] at hl
 | .d,_,_,_,.s _,_,_,_,_,h=>by simp [RC] at h
 | .sl (.own _) _,_,_,_,.v _,_,_,_,_,h=>by simp [RC] at h
 | .sl (.ro _) _,_,_,_,.v _,_,_,_,_,h=>by simp [RC] at h
theorem aiD:∀{cs:List CT} {p p':Pl} {j:Nat} {get:Nat->Value} {as:List A},CT.lives cs=true->p.1∈S->CT.allSs (fun S0=>∀r,r∈S0->r∈S) cs ->
  ax κ w cs p j get as->ax κ w (CT.roizes S cs) p' j get as
 | [],_,_,_,_,[],_,_,_,_=>by simp [CT.roizes,ax]
 | c::cs,p,p',j,get,a::as,hl,hp,hs,h=>by
  simp only [CT.roizes,CT.allSs,CT.lives,ax,aG] at h hs hl ⊢;exact ⟨amv (p:=p.at j) hl.1 hp (by simp [Pl.at]) hs.1 h.1,aiD hl.2 hp hs.2 h.2⟩
 | [],_,_,_,_,_::_,_,_,_,h=>by simp [ax] at h
 | _::_,_,_,_,_,[],_,_,_,h=>by simp [ax] at h
theorem aaj:∀{e:List CT} {p p':Pl} {j:Nat} {get:Nat->Value} {xs:List (List A)},CT.lives e=true->p.1∈S->CT.allSs (fun S0=>∀r,r∈S0->r∈S) e ->
  bO κ w e p j get xs->bO κ w (CT.roizes S e) p' j get xs
 | _,_,_,_,_,[],_,_,_,_=>by simp [bO]
 | e,p,p',j,get,x::xs,hl,hp,hs,h=>by
  simp only [bO] at h ⊢;rw [bQ];exact ⟨aiD hl hp hs h.1,aaj hl hp hs h.2⟩
end
end look
end Go.Fw
namespace Go.Fw
theorem jD {κ:aH} {w:World} {p:Pl} {get:Nat->Value}:∀(k:Nat) {cs:List CT} {j:Nat} {as:List A},ax κ w cs p j get as ->
  ax κ w (cs.drop k) p (j+k) get (as.drop k)
 | 0,_,_,_,h=>by simpa using h
 | k+1,[],j,[],_=>by simp [ax]
 | k+1,c::cs,j,a::as,h=>by
  simp only [ax] at h;have:=jD k h.2;simpa [Nat.add_comm,Nat.add_left_comm,Nat.add_assoc] using this
 | _+1,[],_,_::_,h=>by simp [ax] at h
 | _+1,_::_,_,[],h=>by simp [ax] at h
theorem jE {κ:aH} {w:World} {p:Pl} {get:Nat->Value}:∀(k:Nat) {cs:List CT} {j:Nat} {as:List A},ax κ w cs p j get as ->
  ax κ w (cs.take k) p j get (as.take k)
 | 0,_,_,_,_=>by simp [ax]
 | k+1,[],j,[],_=>by simp [ax]
 | k+1,c::cs,j,a::as,h=>by
  simp only [ax,List.take_succ_cons] at h ⊢;exact ⟨h.1,jE k h.2⟩
 | _+1,[],_,_::_,h=>by simp [ax] at h
 | _+1,_::_,_,[],h=>by simp [ax] at h
theorem zh {κ:aH} {w:World} {p:Pl} {get:Nat->Value}:∀{cs:List CT} {j:Nat} {as:List A} {cs':List CT} {as':List A},ax κ w cs p j get as ->
  ax κ w cs' p (j+cs.length) get as'->ax κ w (cs++cs') p j get (as++as')
 | [],j,[],_,_,_,h'=>by simpa using h'
 | c::cs,j,a::as,cs',as',h,h'=>by
  simp only [ax,List.cons_append] at h ⊢;exact ⟨h.1,zh h.2 (by simpa [Nat.add_comm,Nat.add_left_comm,Nat.add_assoc] using h')⟩
 | [],_,_::_,_,_,h,_=>by simp [ax] at h
 | _::_,_,[],_,_,h,_=>by simp [ax] at h
theorem eH {κ:aH} {w:World} {p:Pl} {get:Nat->Value}:∀{cs:List CT} {j:Nat} {as:List A} {k:Nat} {c:CT} {a:A},ax κ w cs p j get as ->
  cs[k]?=some c->as[k]?=some a->RC κ w c (p.at (j+k)) (get (j+k)) a
 | c::cs,j,a::as,0,c',a',h,hc,ha=>by
  simp only [ax] at h;simp at hc ha;subst hc;subst ha;exact h.1
 | c::cs,j,a::as,k+1,c',a',h,hc,ha=>by
  simp only [ax] at h;have:=eH (k:=k) h.2 (by simpa using hc) (by simpa using ha);simpa [Nat.add_comm,Nat.add_left_comm,Nat.add_assoc] using this
 | [],_,_,_,_,_,_,hc,_=>by simp at hc
 | _::_,_,[],_,_,_,_,_,ha=>by simp at ha
theorem jN {κ:aH} {w:World} {p:Pl} {get:Nat->Value}:∀{cs:List CT} {j:Nat} {as:List A},as.length=cs.length ->
  (∀k c a,cs[k]?=some c->as[k]?=some a->RC κ w c (p.at (j+k)) (get (j+k)) a)->ax κ w cs p j get as
 | [],_,[],_,_=>by simp [ax]
 | c::cs,j,a::as,hl,h=>by
  simp only [ax];refine ⟨by simpa using h 0 c a rfl rfl,jN (by simpa using hl) fun k c' a' hc ha => ?_⟩;have:=h (k+1) c' a' (by simpa using hc) (by simpa using ha);simpa [Nat.add_comm,Nat.add_left_comm,Nat.add_assoc] using this
 | [],_,_::_,hl,_=>by simp at hl
 | _::_,_,[],hl,_=>by simp at hl
theorem lZ {κ:aH} {w:World} {p:Pl} {get:Nat->Value} {e:List CT}:∀{j:Nat} {xs:List (List A)} {i:Nat} {x:List A},bO κ w e p j get xs ->
  xs[i]?=some x->ax κ w e p (j+i*e.length) get x
 | _,x::xs,0,x',h,hx=>by
  simp only [bO] at h;simp at hx;subst hx;simpa using h.1
 | j,x::xs,i+1,x',h,hx=>by
  simp only [bO] at h;have:=lZ (i:=i) h.2 (by simpa using hx);rw [Nat.add_mul,Nat.one_mul];rw [show j+(i*e.length+e.length)=j+e.length+i*e.length from by omega];exact this
 | _,[],_,_,_,hx=>by simp at hx
theorem rD {κ:aH} {w:World} {p:Pl} {get:Nat->Value} {e:List CT}:∀{j:Nat} {xs:List (List A)},
  (∀i x,xs[i]?=some x->ax κ w e p (j+i*e.length) get x)->bO κ w e p j get xs
 | _,[],_=>by simp [bO]
 | j,x::xs,h=>by
  simp only [bO];refine ⟨by simpa using h 0 x rfl,rD fun i y hy => ?_⟩;have:=h (i+1) y (by simpa using hy);rw [Nat.add_mul,Nat.one_mul] at this;rw [show j+e.length+i*e.length=j+(i*e.length+e.length) from by omega];exact this
theorem af5 {κ:aH} {w:World} {p:Pl} {get:Nat->Value} {e:List CT} {xs ys:List (List A)} {j:Nat} (h:bO κ w e p j get xs)
  (h':bO κ w e p (j+xs.length*e.length) get ys):bO κ w e p j get (xs++ys):=by
 refine rD fun i x hx => ?_
 rw [List.getElem?_append] at hx;split at hx
 ·exact lZ h hx
 ·have:=lZ h' hx;rename_i hi;have e1:j+xs.length*e.length+(i-xs.length)*e.length=j+i*e.length:=by
   have:i=xs.length+(i-xs.length):=by omega
   conv=>rhs;rw [this]
   rw [Nat.add_mul];omega
  rw [e1] at this;exact this
theorem Pg {κ:aH} {w:World} {S:List Nat} {p p':Pl} {get get':Nat->Value} {cs:List CT} {j j':Nat} {as:List A} (hl:CT.lives cs=true) (hp:p.1∈S)
  (hs:CT.allSs (fun S0=>∀r,r∈S0->r∈S) cs) (hg:∀i,i<cs.length->get' (j'+i)=get (j+i)) (h:ax κ w cs p j get as):ax κ w (CT.roizes S cs) p' j' get' as:=by
 induction cs generalizing j j' as with
 | nil=>cases as with
  | nil=>simp [CT.roizes,ax]
  | cons=>simp [ax] at h
 | cons c cs ih=>
  cases as with
  | nil=>simp [ax] at h
  | cons a as=>
   simp only [CT.roizes,CT.allSs,CT.lives,ax,aG] at h hs hl ⊢;refine ⟨?_,ih hl.2 hs.2 (fun i hi => ?_) h.2⟩
   ·have:=hg 0 (by simp);simp at this;rw [this];exact amv (p:=p.at j) hl.1 hp (by simp [Pl.at]) hs.1 h.1
   ·have:=hg (i+1) (by simpa using hi);simpa [Nat.add_comm,Nat.add_left_comm,Nat.add_assoc] using this
theorem dQ {κ κ':aH} {w w':World} {f:List Nat->List Nat} {P:List Nat->Prop} {p p':Pl} {get get':Nat->Value} {cs:List CT} {j j':Nat} {as:List A}
  (hro:∀S,P S->∀b,aW κ w S b->aW κ' w' (f S) b/\Same w w' b) (hs:CT.allSs P cs)
  (ho:∀i,i<cs.length->∀b q,κ b=some (p.1,p.2++(j+i)::q)->κ' b=some (p'.1,p'.2++(j'+i)::q)/\Same w w' b)
  (hg:∀i,i<cs.length->get' (j'+i)=get (j+i)) (h:ax κ w cs p j get as):ax κ' w' (CT.mapSs f cs) p' j' get' as:=by
 induction cs generalizing j j' as with
 | nil=>cases as with
  | nil=>simp [CT.mapSs,ax]
  | cons=>simp [ax] at h
 | cons c cs ih=>
  cases as with
  | nil=>simp [ax] at h
  | cons a as=>
   simp only [CT.mapSs,CT.allSs,ax] at h hs ⊢;refine ⟨?_,ih hs.2 (fun i hi b q hb => ?_) (fun i hi => ?_) h.2⟩
   ·have:=hg 0 (by simp);simp at this;rw [this];refine Pf hro hs.1 (fun b q hb => ?_) h.1;have:=ho 0 (by simp) b q (by simpa [Pl.at] using hb);simpa [Pl.at] using this
   ·have:=ho (i+1) (by simpa using hi) b q (by rw [show j+(i+1)=j+1+i from by omega];exact hb);rw [show j'+1+i=j'+(i+1) from by omega];exact this
   ·have:=hg (i+1) (by simpa using hi);rw [show j'+1+i=j'+(i+1) from by omega,show j+1+i=j+(i+1) from by omega];exact this
abbrev Sk:=List (Nat × Nat)
def bG:List A->Sk->List Nat->Option (List A)
 | as,[],[]=>some as
 | as,(c,_)::sk,i::is=>match as[c]? with
  | some (.s xs)=>match xs[i]? with
   | some x=>bG x sk is
   | none=>none
  | _=>none
 | _,_,_=>none
def jd:List A->Sk->List Nat->List A->List A
 | _,[],_,x=>x
 | as,(c,_)::sk,i::is,x=>match as[c]? with
  | some (.s xs)=>match xs[i]? with
   | some y=>as.set c (.s (xs.set i (jd y sk is x)))
   | none=>as
  | _=>as
 | as,_,_,_=>as
def eU (own:Bool):List CT->Sk->Option (List CT)
 | cs,[]=>some cs
 | cs,(c,n)::sk=>match cs[c]? with
  | some (.sl (.own _) e)=>if e.length=n then eU own e sk else none
  | some (.sl (.ro _) e)=>if e.length=n/\own=false then eU own e sk else none
  | _=>none
def wk (w:World):(Nat->Value)->Option (Nat × Nat)->Sk->List Nat->Option (Nat × Nat)
 | _,bo,[],[]=>bo
 | get,_,(c,n)::sk,i::is=>match get c with
  | .slice (some ⟨b,o,none⟩) len _=>if i<len then wk w (fun k=>cellD w b (o+i*n+k)) (some (b,o+i*n)) sk is else none
  | _=>none
 | _,_,_,_=>none
def bD (p:List Nat) (j:Nat):Sk->List Nat->List Nat × Nat
 | (c,n)::sk,i::is=>bD (p++[j+c]) (i*n) sk is
 | _,_=>(p,j)
theorem rE:∀(sk:Sk) (is p:List Nat) (j:Nat),p <+: (bD p j sk is).1
 | [],_,p,j=>by simp [bD]
 | (c,n)::sk,[],p,j=>by simp [bD]
 | (c,n)::sk,i::is,p,j=>by
  simp only [bD];exact List.IsPrefix.trans (List.prefix_append p [j+c]) (rE sk is _ _)
theorem zZ {κ:aH} {w:World} {r:Nat}:∀{sk:Sk} {is:List Nat} {cs:List CT} {p:List Nat} {j:Nat} {get:Nat->Value} {as x:List A} {e:List CT} {bo:Option (Nat × Nat)},
  sk≠[]->ax κ w cs (r,p) j get as->eU true cs sk=some e->bG as sk is=some x ->
  ∃b o,wk w (fun k=>get (j+k)) bo sk is=some (b,o+(bD p j sk is).2)/\κ b=some (r,(bD p j sk is).1)/\Wrb w b (o+(bD p j sk is).2) (o+(bD p j sk is).2+e.length) /\
   ax κ w e (r,(bD p j sk is).1) (bD p j sk is).2 (fun k=>cellD w b (o+k)) x
 | [],_,_,_,_,_,_,_,_,_,h,_,_,_=>absurd rfl h
 | (c,n)::sk,[],_,_,_,_,_,_,_,_,_,_,_,hl=>by simp [bG] at hl
 | (c,n)::sk,i::is,cs,p,j,get,as,x,e,bo,_,h,ht,hl=>by
  simp only [bG] at hl;split at hl;case h_2=>simp at hl
  case h_1 xs ha=>
  split at hl;case h_2=>simp at hl
  case h_1 y hy=>
  simp only [eU] at ht;split at ht;case h_3=>simp at ht
  case h_2=>simp at ht
  case h_1 k0 e0 hc=>
  split at ht;case isFalse=>simp at ht
  case isTrue hn=>
  have hi:i<xs.length:=(aY hy).1;have h1:=eH h hc ha;simp only [RC] at h1;obtain ⟨ao,cap,hx,hle,hcase⟩:=h1;rcases hcase with ⟨_,rfl⟩|⟨b,o,rfl,hbs,hb,hw,he⟩
  ·omega
  ·have hrow:=lZ he hy;rw [hn] at hrow hw;simp only [Nat.zero_add] at hrow;simp only [wk,hx,if_pos hi,bD];cases sk with
   | nil=>
    simp only [eU,aF] at ht;subst ht;cases is with
    | cons=>simp [bG] at hl
    | nil=>
     simp only [bG,aF] at hl;subst hl;refine ⟨b,o,by simp [wk,bD],by simpa [bD,Pl.at] using hb,?_,?_⟩
     ·simp only [bD,hn];refine hw.sub (by omega) ?_;have:=Nat.mul_le_mul_right n (show i+1<=cap by omega);rw [Nat.add_mul] at this;omega
     ·simpa [bD,Pl.at] using hrow
   | cons s sk=>
    have hrow':ax κ w e0 (r,p++[j+c]) (i*n) (fun k=>cellD w b (o+k)) y:=by simpa [Pl.at] using hrow
    obtain ⟨b',o',hwk,rest⟩:=zZ (sk:=s::sk) (bo:=some (b,o+i*n)) (by simp) hrow' ht hl;refine ⟨b',o',?_,rest⟩;rw [<-hwk];congr 1;funext k;rw [Nat.add_assoc]
theorem aiE {κ:aH} {w:World} {r:Nat}:∀{sk:Sk} {is:List Nat} {cs:List CT} {p:List Nat} {j:Nat} {get:Nat->Value} {as x:List A} {e:List CT} {bo:Option (Nat × Nat)},
  sk≠[]->ax κ w cs (r,p) j get as->eU false cs sk=some e->bG as sk is=some x ->
  ∃b o,wk w (fun k=>get (j+k)) bo sk is=some (b,o+(bD p j sk is).2)/\Rdb w b (o+(bD p j sk is).2) (o+(bD p j sk is).2+e.length) /\
   ax κ w e (r,(bD p j sk is).1) (bD p j sk is).2 (fun k=>cellD w b (o+k)) x
 | [],_,_,_,_,_,_,_,_,_,h,_,_,_=>absurd rfl h
 | (c,n)::sk,[],_,_,_,_,_,_,_,_,_,_,_,hl=>by simp [bG] at hl
 | (c,n)::sk,i::is,cs,p,j,get,as,x,e,bo,_,h,ht,hl=>by
  simp only [bG] at hl
  split at hl
  case h_2=>simp at hl
  case h_1 xs ha=>
  split at hl
  case h_2=>simp at hl
  case h_1 y hy=>
  have hi:i<xs.length:=(aY hy).1
  obtain ⟨m,e0,b,o,cap,hc,hn,ht',hx,hr,he⟩:∃m e0 b o cap,cs[c]?=some (.sl m e0)/\e0.length=n/\eU false e0 sk=some e/\get (j+c) = .slice (some ⟨b,o,none⟩) xs.length cap /\
    Rdb w b o (o+xs.length*n)/\bO κ w e0 (r,p++[j+c]) 0 (fun k=>cellD w b (o+k)) xs:=by
   simp only [eU] at ht;split at ht;case h_3=>simp at ht
   case h_1 k0 e0 hc=>
    split at ht;case isFalse=>simp at ht
    case isTrue hn=>
    have h1:=eH h hc ha;simp only [RC] at h1;obtain ⟨ao,cap,hx,hle,hcase⟩:=h1;rcases hcase with ⟨_,rfl⟩|⟨b,o,rfl,hbs,hb,hw,he⟩
    ·omega
    ·have:=Nat.mul_le_mul_right n hle;exact ⟨_,e0,b,o,cap,hc,hn,ht,hx,by rw [hn] at hw;exact hw.rdb.sub (Nat.le_refl _) (by omega),by simpa [Pl.at] using he⟩
   case h_2 S e0 hc=>
    split at ht;case isFalse=>simp at ht
    case isTrue hn=>
    have h1:=eH h hc ha;simp only [RC] at h1;obtain ⟨ao,cap,hx,hle,hcase⟩:=h1;rcases hcase with rfl|⟨b,o,rfl,hb,hr,he⟩
    ·simp at hi
    ·exact ⟨_,e0,b,o,cap,hc,hn.1,ht,hx,by rw [hn.1] at hr;exact hr,by simpa [Pl.at] using he⟩
  have hrow:=lZ he hy
  rw [hn] at hrow
  simp only [Nat.zero_add] at hrow
  simp only [wk,hx,if_pos hi,bD]
  cases sk with
  | nil=>
   simp only [eU,aF] at ht'
   subst ht'
   cases is with
   | cons=>simp [bG] at hl
   | nil=>
    simp only [bG,aF] at hl
    subst hl
    refine ⟨b,o,by simp [wk,bD],?_,?_⟩
    ·simp only [bD,hn]
     refine hr.sub (by omega) ?_
     have:=Nat.mul_le_mul_right n (show i+1<=xs.length by omega)
     rw [Nat.add_mul] at this;omega
    ·simpa [bD,Pl.at] using hrow
  | cons s sk=>
   obtain ⟨b',o',hwk,rest⟩:=aiE (sk:=s::sk) (bo:=some (b,o+i*n)) (by simp) hrow ht' hl
   refine ⟨b',o',?_,rest⟩
   rw [<-hwk]
   congr 1
   funext k;rw [Nat.add_assoc]
end Go.Fw
namespace Go.Fw
mutual
theorem Wo:∀c:CT,c.mapS id=c
 | .d=>by simp [CT.mapS]
 | .sl (.ro S) e=>by simp [CT.mapS,fE e]
 | .sl (.own _) e=>by simp [CT.mapS,fE e]
 | .sl .dead e=>by simp [CT.mapS,fE e]
theorem fE:∀cs:List CT,CT.mapSs id cs=cs
 | []=>by simp [CT.mapSs]
 | c::cs=>by simp [CT.mapSs,Wo c,fE cs]
end
theorem LH {P:List Nat->Prop}:∀{cs:List CT} {k:Nat} {c:CT},CT.allSs P cs->cs[k]?=some c->c.allS P
 | c::cs,0,c',h,hc=>by simp at hc;subst hc;simp only [CT.allSs] at h;exact h.1
 | c::cs,k+1,c',h,hc=>by simp only [CT.allSs] at h;exact LH h.2 (by simpa using hc)
 | [],_,_,_,hc=>by simp at hc
theorem qG {κ κ':aH} {w w':World} {c:CT} {p:Pl} {x:Value} {a:A} (hs:c.allS (fun S=>∀b,aW κ w S b->aW κ' w' S b/\Same w w' b))
  (ho:∀b q,κ b=some (p.1,p.2++q)->κ' b=κ b/\Same w w' b) (h:RC κ w c p x a):RC κ' w' c p x a:=by
 have:=Pf (f:=id) (P:=fun S=>∀b,aW κ w S b->aW κ' w' S b/\Same w w' b) (κ':=κ') (w':=w') (p':=p) (fun S hS b hb=>hS b hb) hs
  (fun b q hb=>⟨by rw [(ho b q hb).1];exact hb,(ho b q hb).2⟩) h
 rwa [Wo] at this
theorem Rq {κ κ':aH} {w w':World} {cs:List CT} {p:Pl} {j:Nat} {get get':Nat->Value} {as:List A} (hs:CT.allSs (fun S=>∀b,aW κ w S b->aW κ' w' S b/\Same w w' b) cs)
  (ho:∀i,i<cs.length->∀b q,κ b=some (p.1,p.2++(j+i)::q)->κ' b=κ b/\Same w w' b) (hg:∀i,i<cs.length->get' (j+i)=get (j+i)) (h:ax κ w cs p j get as) :
  ax κ' w' cs p j get' as:=by
 have:=dQ (f:=id) (P:=fun S=>∀b,aW κ w S b->aW κ' w' S b/\Same w w' b) (κ':=κ') (w':=w') (p':=p) (j':=j) (get':=get') (fun S hS b hb=>hS b hb) hs
  (fun i hi b q hb=>⟨by rw [(ho i hi b q hb).1];exact hb,(ho i hi b q hb).2⟩) hg h
 rwa [fE] at this
theorem GJ:∀(sk:Sk) (is p:List Nat) (j:Nat),sk≠[]->is≠[]->p.length<(bD p j sk is).1.length
 | [],_,_,_,h,_=>absurd rfl h
 | _::_,[],_,_,_,h=>absurd rfl h
 | (c,n)::sk,i::is,p,j,_,_=>by
  simp only [bD];have:=(rE sk is (p++[j+c]) (i*n)).length_le;simp at this;omega
theorem jO {p q:List Nat} {x y:Nat} (h:p++[x] <+: p++y::q):x=y:=by
 rw [List.prefix_append_right_inj] at h;simpa using h
theorem FI {κ κ':aH} {w w':World} {r:Nat}:∀{sk:Sk} {is:List Nat} {cs:List CT} {p:List Nat} {j:Nat} {get:Nat->Value} {as x x':List A} {e:List CT}
  {bo:Option (Nat × Nat)} {B O:Nat},
  sk≠[]->ax κ w cs (r,p) j get as->eU true cs sk=some e->bG as sk is=some x->wk w (fun k=>get (j+k)) bo sk is=some (B,O) ->
  CT.allSs (fun S=>∀b,aW κ w S b->aW κ' w' S b/\Same w w' b) cs ->
  (∀b q,κ b=some (r,q)->b≠B->(∀k,k<e.length->¬(bD p j sk is).1++[(bD p j sk is).2+k] <+: q)->κ' b=κ b/\Same w w' b) ->
  (∀{b},b<w.heap.size->b<w'.heap.size)->κ' B=κ B->(∀o y,¬(O<=o/\o<O+e.length)->w.cell? ⟨B,o,none⟩=some y->w'.cell? ⟨B,o,none⟩=some y/\w'.frozen? ⟨B,o,none⟩=w.frozen? ⟨B,o,none⟩) ->
  Wrb w' B O (O+e.length) ->
  (∀o,O=o+(bD p j sk is).2->ax κ' w' e (r,(bD p j sk is).1) (bD p j sk is).2 (fun k=>cellD w' B (o+k)) x') ->
  ax κ' w' cs (r,p) j get (jd as sk is x')
 | [],_,_,_,_,_,_,_,_,_,_,_,_,h,_,_,_,_,_,_,_,_,_,_,_=>absurd rfl h
 | (c,n)::sk,[],_,_,_,_,_,_,_,_,_,_,_,_,_,_,hl,_,_,_,_,_,_,_,_=>by simp [bG] at hl
 | (c,n)::sk,i::is,cs,p,j,get,as,x,x',e,bo,B,O,hne,h,ht,hl,hwk,hS,h1,hsz,hB,hcell,hW,h3=>by
  obtain ⟨B',o',hwk',hκB,_,_⟩:=zZ (bo:=bo) hne h ht hl
  rw [hwk] at hwk'
  simp only [aF,Prod.mk.injEq] at hwk'
  obtain ⟨rfl,hO⟩:=hwk'
  have hpre:=rE sk is (p++[j+c]) (i*n)
  simp only [bG] at hl
  split at hl
  case h_2=>simp at hl
  case h_1 xs ha=>
  split at hl
  case h_2=>simp at hl
  case h_1 y hy=>
  simp only [eU] at ht
  split at ht
  case h_3=>simp at ht
  case h_2=>simp at ht
  case h_1 k0 e0 hc=>
  split at ht
  case isFalse=>simp at ht
  case isTrue hn=>
  have hi:i<xs.length:=(aY hy).1
  have hcl:c<as.length:=(aY ha).1
  have hrc:=eH h hc ha
  simp only [RC] at hrc
  obtain ⟨ao,cap,hx,hle,hcase⟩:=hrc
  rcases hcase with ⟨_,rfl⟩|⟨b,o,rfl,hbs,hb,hw,he⟩
  ·omega
  simp only [jd,ha,hy]
  have hlen:=bU h
  refine jN (by simpa using hlen) fun k ct a' hk hka => ?_
  by_cases hkc:k=c
  ·subst hkc
   rw [hc] at hk;cases hk
   rw [List.getElem?_set_self hcl] at hka
   cases hka
   have hSc:=LH hS hc
   simp only [CT.allS] at hSc
   have hbp:κ b=some (r,p++[j+k]):=by simpa [Pl.at] using hb
   -- the block of this slice
   have hrow:=lZ he hy
   rw [hn] at hrow
   simp only [Nat.zero_add] at hrow
   simp only [bD] at h1 h3 hO hκB
   simp only [wk,hx,if_pos hi] at hwk
   have hn0:e0.length=n:=hn
   -- κ' and cells of this block
   have hblock:κ' b=κ b/\Wrb w' b o (o+cap*e0.length)/\(b<w.heap.size->b<w'.heap.size):=by
    by_cases hbB:b=B
    ·refine ⟨by rw [hbB];exact hB,fun o1 g1 g2 => ?_,hsz⟩;obtain ⟨⟨y1,hy1⟩,hf1⟩:=hw o1 g1 g2;subst hbB;by_cases hr:O<=o1/\o1<O+e.length
     ·exact hW o1 hr.1 hr.2
     ·have:=hcell o1 y1 hr hy1;exact ⟨⟨y1,this.1⟩,by rw [this.2];exact hf1⟩
    ·have:=h1 b (p++[j+k]) hbp hbB (fun k' _ hpr=>by
      have:=hpr.length_le
      have:=hpre.length_le
      simp at *;omega)
     exact ⟨this.1,this.2.wrb hw,this.2.1⟩
   simp only [RC]
   refine ⟨_,cap,by rw [hx];simp,by simpa using hle,.inr ⟨b,o,rfl,hblock.2.2 hbs,by rw [hblock.1];simpa [Pl.at] using hbp,hblock.2.1,?_⟩⟩
   -- its rows
   refine rD fun i' x1 hx1 => ?_
   simp only [Nat.zero_add]
   by_cases hii:i'=i
   ·subst hii
    rw [List.getElem?_set_self hi] at hx1
    cases hx1
    cases sk with
    | nil=>
     simp only [eU,aF] at ht
     subst ht
     cases is with
     | cons=>simp [bG] at hl
     | nil=>
      simp only [wk,aF,Prod.mk.injEq] at hwk
      obtain ⟨rfl,hO'⟩:=hwk
      simp only [jd]
      have:=h3 o (by simp [bD];omega)
      rw [hn0]
      simpa [bD,Pl.at] using this
    | cons s sk=>
     have his:is≠[]:=by rintro rfl;cases s;simp [bG] at hl
     have hrow':ax κ w e0 (r,p++[j+k]) (i'*n) (fun k=>cellD w b (o+k)) y:=by simpa [Pl.at] using hrow
     have hlong:=GJ (s::sk) is (p++[j+k]) (i'*n) (by simp) his
     have hbB:b≠B:=by
      rintro rfl
      rw [hbp] at hκB
      simp only [aF,Prod.mk.injEq,true_and] at hκB
      rw [<-hκB] at hlong;omega
     have hsame:Same w w' b:=(h1 b (p++[j+k]) hbp hbB (fun k' _ hpr=>by
      have:=hpr.length_le
      simp at this hlong;omega)).2
     have hrec:=FI (κ':=κ') (w':=w') (bo:=some (b,o+i'*n)) (B:=B) (O:=O) (by simp) hrow' ht hl
      (by rw [<-hwk];congr 1;funext k;rw [Nat.add_assoc]) hSc h1 hsz hB hcell hW h3
     rw [hn0]
     refine jA (fun i1 g1 g2 => ?_) (by simpa [Pl.at] using hrec)
     refine hsame.cD hw.rdb (by omega) ?_
     have:=Nat.mul_le_mul_right n (show i'+1<=cap by omega)
     rw [Nat.add_mul] at this;rw [hn0] at g2 ⊢;omega
   ·have hx1':xs[i']?=some x1:=by rw [List.getElem?_set_ne (fun h=>hii h.symm)] at hx1;exact hx1
    have hi':i'<xs.length:=(aY hx1').1
    have hrow1:=lZ he hx1'
    simp only [Nat.zero_add] at hrow1
    refine Rq hSc (fun k' hk' b' q hb' => ?_) (fun k' hk' => ?_) hrow1
    ·simp only [Pl.at] at hb'
     refine h1 b' _ hb' ?_ ?_
     ·rintro rfl
      rw [hb'] at hκB
      simp only [aF,Prod.mk.injEq,true_and] at hκB
      have hp2:=hpre
      rw [<-hκB] at hp2
      cases sk with
      | nil=>simp [bD] at hκB
      | cons s sk=>
       cases is with
       | nil=>cases s;simp [bG] at hl
       | cons i2 is=>
        obtain ⟨c2,n2⟩:=s
        simp only [bD] at hκB
        have hq:=rE sk is ((p++[j+k])++[i*n+c2]) (i2*n2)
        rw [<-hκB,List.append_assoc,List.append_assoc,List.prefix_append_right_inj] at hq
        simp at hq
        have hc2:c2<n:=by
         simp only [bG] at hl
         split at hl
         case h_2=>simp at hl
         case h_1 xs2 ha2=>
         have:=(aY ha2).1
         have:=bU hrow
         omega
        rw [hn0] at hk' hq
        have hq1:i'*n+k'=i*n+c2:=by omega
        rcases Nat.lt_or_gt_of_ne hii with hlt|hgt
        ·have:=Nat.mul_le_mul_right n (show i'+1<=i by omega);rw [Nat.add_mul] at this;omega
        ·have:=Nat.mul_le_mul_right n (show i+1<=i' by omega);rw [Nat.add_mul] at this;omega
     ·intro k1 hk1 hpr
      cases sk with
      | nil=>
       simp only [eU,aF] at ht
       subst ht
       simp only [bD] at hpr
       have:i*n+k1=i'*n+k':=by
        rw [hn0] at hpr
        exact jO hpr
       rw [hn0] at hk' hk1
       rcases Nat.lt_or_gt_of_ne hii with hlt|hgt
       ·have:=Nat.mul_le_mul_right n (show i'+1<=i by omega);rw [Nat.add_mul] at this;omega
       ·have:=Nat.mul_le_mul_right n (show i+1<=i' by omega);rw [Nat.add_mul] at this;omega
      | cons s sk=>
       cases is with
       | nil=>cases s;simp [bG] at hl
       | cons i2 is=>
        obtain ⟨c2,n2⟩:=s
        simp only [bD] at hpr
        have hq:=rE sk is ((p++[j+k])++[i*n+c2]) (i2*n2)
        have hq2:=(hq.trans (List.prefix_append _ _)).trans hpr
        have hq1:=jO hq2
        have hc2:c2<n:=by
         simp only [bG] at hl
         split at hl
         case h_2=>simp at hl
         case h_1 xs2 ha2=>
         have:=(aY ha2).1
         have:=bU hrow
         omega
        rw [hn0] at hk' hq1
        rcases Nat.lt_or_gt_of_ne hii with hlt|hgt
        ·have:=Nat.mul_le_mul_right n (show i'+1<=i by omega);rw [Nat.add_mul] at this;omega
        ·have:=Nat.mul_le_mul_right n (show i+1<=i' by omega);rw [Nat.add_mul] at this;omega
    ·-- the cells of the other rows
     have hin:o+(i'*e0.length+k')<o+cap*e0.length:=by
      have:=Nat.mul_le_mul_right e0.length (show i'+1<=cap by omega)
      rw [Nat.add_mul] at this;omega
     obtain ⟨⟨y1,hy1⟩,_⟩:=hw (o+(i'*e0.length+k')) (by omega) hin
     by_cases hbB:b=B
     ·subst hbB
      have hsk:sk=[]:=by
       cases sk with
       | nil=>rfl
       | cons s sk=>
        exfalso
        have his:is≠[]:=by rintro rfl;cases s;simp [bG] at hl
        have hlong:=GJ (s::sk) is (p++[j+k]) (i*n) (by simp) his
        rw [hbp] at hκB
        simp only [aF,Prod.mk.injEq,true_and] at hκB
        rw [<-hκB] at hlong;omega
      subst hsk
      cases is with
      | cons=>simp [bG] at hl
      | nil=>
       simp only [wk,aF,Prod.mk.injEq] at hwk
       simp only [eU,aF] at ht
       subst ht
       have hout:¬(O<=o+(i'*e0.length+k')/\o+(i'*e0.length+k')<O+e0.length):=by
        rw [<-hwk.2,hn0] at *
        rcases Nat.lt_or_gt_of_ne hii with hlt|hgt
        ·have:=Nat.mul_le_mul_right n (show i'+1<=i by omega);rw [Nat.add_mul] at this;omega
        ·have:=Nat.mul_le_mul_right n (show i+1<=i' by omega);rw [Nat.add_mul] at this;omega
       have:=(hcell _ y1 hout hy1).1
       simp [cellD,this,hy1]
     ·have hsame:Same w w' b:=(h1 b (p++[j+k]) hbp hbB (fun k' _ hpr=>by
       have:=hpr.length_le
       have:=hpre.length_le
       simp at *;omega)).2
      simp [cellD,(hsame.2 _ y1 hy1).1,hy1]
  ·rw [List.getElem?_set_ne (fun h=>hkc h.symm)] at hka
   have hold:=eH h hk hka
   refine qG (LH hS hk) (fun b' q hb' => ?_) hold
   simp only [Pl.at,List.append_assoc,List.singleton_append] at hb'
   simp only [bD] at h1 hκB
   refine h1 b' _ hb' ?_ ?_
   ·rintro rfl
    rw [hb'] at hκB
    simp only [aF,Prod.mk.injEq,true_and] at hκB
    rw [<-hκB] at hpre
    have:=jO hpre
    omega
   ·intro k1 _ hpr
    have:=jO ((hpre.trans (List.prefix_append _ _)).trans hpr)
    omega
end Go.Fw
namespace Go.Fw
inductive AV where
 | v (as:List A) (is:List Nat)
 | p (is:List Nat)
 | n
inductive TT where
 | dead
 | val (ag:Bool) (cs:List CT)
 | alias (ag:Bool) (cs:List CT) (r:Nat) (sk:Sk) (off:Nat) (S:List Nat)
 | box (cs:List CT)
 | ptr (r:Nat) (sk:Sk) (off:Nat) (S:List Nat)
 | tup (ws:List (Bool × Nat)) (cs:List CT)
def cellsOf:Bool->Value->Option (List Value)
 | true,.agg vs=>some vs.toList
 | true,_=>none
 | false,.agg _=>none
 | false,.tuple _=>none
 | false,x=>some [x]
def pQ:List (Bool × Nat)->List Value->Option (List Value)
 | [],[]=>some []
 | (g,n)::ws,x::xs=>match cellsOf g x,pQ ws xs with
  | some a,some b=>if a.length=n then some (a++b) else none
  | _,_=>none
 | _,_=>none
def rg (w:World) (tag:TT) (x:Value) (k:Nat):Value:=
 match tag,x with
 | .val ag _,x=>((cellsOf ag x).getD []).getD k undef
 | .box _,.pointer (some a)=>cellD w a.block k
 | _,_=>undef
def rb (tag:TT) (x:Value):Option Nat:=
 match tag,x with
 | .box _,.pointer (some a)=>some a.block
 | _,_=>none
def dU (w:World) (g:Nat->Value) (sk:Sk) (is:List Nat):Option (Nat->Value):=
 match sk,is with
 | [],[]=>some g
 | [],_::_=>none
 | s::sk,is=>(wk w g none (s::sk) is).map fun bo=>fun k=>cellD w bo.1 (bo.2+k)
def eY (w:World) (g:Nat->Value) (bo:Option Nat) (sk:Sk) (is:List Nat):Option (Nat × Nat):=
 wk w g (bo.map fun b=>(b,0)) sk is
def PO (κ:aH) (w:World) (S:List Nat):(Nat->Value)->Sk->List Nat->Prop
 | get,(c,n)::sk,i::is=>match get c with
  | .slice (some a) _ _=>aW κ w S a.block/\PO κ w S (fun k=>cellD w a.block (a.off+i*n+k)) sk is
  | _=>True
 | _,_,_=>True
def Agr (g g':Nat->Value):Prop:=∀k,g k≠undef->g' k=g k
theorem alr {w:World} {b o:Nat} (h:cellD w b o≠undef):∃x,w.cell? ⟨b,o,none⟩=some x/\cellD w b o=x:=by
 unfold cellD at h ⊢;cases hc:w.cell? ⟨b,o,none⟩ with
 | none=>simp [hc] at h
 | some x=>exact ⟨x,rfl,rfl⟩
theorem Same.agr {w w':World} {b:Nat} (h:Same w w' b) (f:Nat->Nat):Agr (fun k=>cellD w b (f k)) (fun k=>cellD w' b (f k)):=by
 intro k hk;obtain ⟨x,hx,_⟩:=alr hk;simp [cellD,hx,(h.2 _ x hx).1]
theorem uR {κ κ':aH} {w w':World} {S:List Nat} (hro:∀b,aW κ w S b->aW κ' w' S b/\Same w w' b) :
  ∀{sk:Sk} {is:List Nat} {g g':Nat->Value} {bo:Option (Nat × Nat)} {BO:Nat × Nat},Agr g g'->PO κ w S g sk is->wk w g bo sk is=some BO ->
  wk w' g' bo sk is=some BO/\PO κ' w' S g' sk is
 | [],[],_,_,_,_,_,_,h=>by simp only [wk,PO] at h ⊢;exact ⟨h,trivial⟩
 | [],_::_,_,_,_,_,_,_,h=>by simp [wk] at h
 | _::_,[],_,_,_,_,_,_,h=>by simp [wk] at h
 | (c,n)::sk,i::is,g,g',bo,BO,hg,hp,h=>by
  simp only [wk] at h;split at h;case h_2=>simp at h
  case h_1 b o len cap hx=>
  split at h;case isFalse=>simp at h
  case isTrue hi=>
  have hx':g' c = .slice (some ⟨b,o,none⟩) len cap:=by rw [hg c (by rw [hx];simp [undef]),hx]
  simp only [PO,hx] at hp;obtain ⟨hb',hsame⟩:=hro b hp.1;have hrec:=uR hro (g':=fun k=>cellD w' b (o+i*n+k)) (hsame.agr fun k=>o+i*n+k) hp.2 h;simp only [wk,PO,hx',if_pos hi];exact ⟨hrec.1,hb',hrec.2⟩
theorem aet {κ:aH} {w:World} {S:List Nat}:∀{sk:Sk} {is:List Nat} {g:Nat->Value} {bo:Option (Nat × Nat)} {B O:Nat},sk≠[]->PO κ w S g sk is->wk w g bo sk is=some (B,O)->aW κ w S B
 | [],_,_,_,_,_,h,_,_=>absurd rfl h
 | _::_,[],_,_,_,_,_,_,h=>by simp [wk] at h
 | (c,n)::sk,i::is,g,bo,B,O,_,hp,h=>by
  simp only [wk] at h;split at h;case h_2=>simp at h
  case h_1 b o len cap hx=>
  split at h;case isFalse=>simp at h
  case isTrue hi=>
  simp only [PO,hx] at hp;cases sk with
  | nil=>
   cases is with
   | nil=>simp only [wk,aF,Prod.mk.injEq] at h;rw [<-h.1];exact hp.1
   | cons=>simp [wk] at h
  | cons s sk=>exact aet (by simp) hp.2 h
mutual
def CT.men (M:List Nat):CT->Bool
 | .d=>false
 | .sl (.ro S) e=>S.any (M.contains ·) || CT.mens M e
 | .sl _ e=>CT.mens M e
def CT.mens (M:List Nat):List CT->Bool
 | []=>false
 | c::cs=>c.men M || CT.mens M cs
end
def nO (M:List Nat) (c:CT):CT:=
 if c.men M then match c with
  | .sl _ e=>.sl .dead e
  | .d=>.d
 else c
def meets (S M:List Nat):Bool:=S.any (M.contains ·)
def TT.kill (mods M:List Nat):TT->TT
 | .dead=>.dead
 | .val ag cs=>.val ag (cs.map (nO M))
 | .box cs=>.box (cs.map (nO M))
 | .tup ws cs=>.tup ws (cs.map (nO M))
 | .alias ag cs r sk off S=>if mods.contains r || meets S M || CT.mens M cs then .dead else .alias ag cs r sk off S
 | .ptr r sk off S=>if mods.contains r || meets S M then .dead else .ptr r sk off S
theorem DW {S M:List Nat} (h:meets S M=false):∀m,m∈M->m∉S:=by
 intro m hm hs;simp only [meets,List.any_eq_false] at h;exact h m hs (by simpa using hm)
mutual
theorem uS {M:List Nat} {P:List Nat->Prop} (hP:∀S,(∀m,m∈M->m∉S)->P S):∀{c:CT},c.men M=false->c.allS P
 | .d,_=>by simp [CT.allS]
 | .sl (.ro S) e,h=>by
  simp only [CT.men,Bool.or_eq_false_iff] at h;simp only [CT.allS];exact ⟨hP S (DW h.1),dA hP h.2⟩
 | .sl (.own _) e,h=>by simp only [CT.men] at h;simp only [CT.allS];exact dA hP h
 | .sl .dead e,h=>by simp only [CT.men] at h;simp only [CT.allS];exact dA hP h
theorem dA {M:List Nat} {P:List Nat->Prop} (hP:∀S,(∀m,m∈M->m∉S)->P S):∀{cs:List CT},CT.mens M cs=false->CT.allSs P cs
 | [],_=>by simp [CT.allSs]
 | c::cs,h=>by
  simp only [CT.mens,Bool.or_eq_false_iff] at h;simp only [CT.allSs];exact ⟨uS hP h.1,dA hP h.2⟩
end
section stay
variable {κ κ':aH} {w w':World} {mods M:List Nat}
theorem GK {p:Pl} {get get':Nat->Value} (hro:∀S,(∀m,m∈M->m∉S)->∀b,aW κ w S b->aW κ' w' S b/\Same w w' b)
  (ho:∀b q,κ b=some (p.1,q)->κ' b=κ b/\Same w w' b) {cs:List CT} {j:Nat} {as:List A}
  (hg:∀i,i<cs.length->get' (j+i)=get (j+i)) (h:ax κ w cs p j get as):ax κ' w' (cs.map (nO M)) p j get' as:=by
 refine jN (by rw [List.length_map];exact bU h) fun k c a hc ha => ?_
 rw [List.getElem?_map] at hc;cases hc0:cs[k]? with
 | none=>simp [hc0] at hc
 | some c0=>
  simp only [hc0,Option.map_some,aF] at hc;subst hc;have hk:=(aY hc0).1;have h0:=eH h hc0 ha;unfold nO;split
  ·cases c0 with
   | d=>rename_i hm;simp [CT.men] at hm
   | sl m e=>simp only [RC]
  ·rename_i hm;rw [hg k hk];refine qG (uS (fun S hS=>hro S hS) (by simpa using hm)) (fun b q hb=>ho b _ hb) h0
end stay
def mV (ac:Nat->Nat->Value) (cs:List CT) (get:Nat->Value):Prop:=∀k j c e,cs[k]?=some (.sl (.own (some (j,c))) e)->get k=ac j c
theorem XR {ac:Nat->Nat->Value} {cs:List CT} {get get':Nat->Value} {M:List Nat} (hg:∀i,i<cs.length->get' i=get i) (h:mV ac cs get):mV ac (cs.map (nO M)) get':=by
 intro k j c e hc;rw [List.getElem?_map] at hc;cases hc0:cs[k]? with
 | none=>simp [hc0] at hc
 | some c0=>
  simp only [hc0,Option.map_some,aF] at hc;have hk:=(aY hc0).1;rw [hg k hk];refine h k j c e ?_;rw [hc0];unfold nO at hc;split at hc
  ·cases c0<;>simp at hc
  ·rw [hc]
def TR (ac:Nat->Nat->Value) (κ:aH) (w:World) (tg:Nat->TT) (sv:Nat->AV) (tm:Nat->Value) (t:Nat):TT->Prop
 | .dead=>True
 | .val ag cs=>∃as vs,sv t = .v as []/\cellsOf ag (tm t)=some vs/\vs.length=cs.length/\mV ac cs (fun k=>vs.getD k undef)/\ax κ w cs (t,[]) 0 (fun k=>vs.getD k undef) as
 | .alias ag cs r sk off S=>∃as is vs g ra row,sv t = .v as is/\cellsOf ag (tm t)=some vs/\vs.length=cs.length/\CT.lives cs=true/\ax κ w cs (t,[]) 0 (fun k=>vs.getD k undef) as /\
   dU w (rg w (tg r) (tm r)) sk is=some g/\PO κ w S (rg w (tg r) (tm r)) sk is/\(∀b,rb (tg r) (tm r)=some b->κ b=some (r,[]))/\(sk≠[]->r∈S) /\
   (∀k,k<cs.length->g (off+k)=vs.getD k undef/\vs.getD k undef≠undef)/\sv r = .v ra []/\bG ra sk is=some row/\as=(row.drop off).take cs.length
 | .box cs=>∃as b,sv t = .v as []/\tm t = .pointer (some ⟨b,0,none⟩)/\b<w.heap.size/\κ b=some (t,[])/\Wrb w b 0 cs.length/\mV ac cs (cellD w b)/\ax κ w cs (t,[]) 0 (cellD w b) as
 | .ptr r sk off S=>∃is B O,sv t = .p is/\eY w (rg w (tg r) (tm r)) (rb (tg r) (tm r)) sk is=some (B,O)/\PO κ w S (rg w (tg r) (tm r)) sk is/\(∀b,rb (tg r) (tm r)=some b->κ b=some (r,[])) /\
   tm t = .pointer (some ⟨B,O+off,none⟩)
 | .tup ws cs=>∃as xs vs,sv t = .v as []/\tm t = .tuple xs/\pQ ws xs.toList=some vs/\vs.length=cs.length/\ax κ w cs (t,[]) 0 (fun k=>vs.getD k undef) as
theorem jP (w:World) (mods M:List Nat) (tag:TT) (x:Value):rg w (tag.kill mods M) x=rg w tag x/\rb (tag.kill mods M) x=rb tag x:=by
 cases tag with
 | alias ag cs r sk off S=>simp only [TT.kill];split<;>exact ⟨by funext k;simp [rg],by simp [rb]⟩
 | ptr r sk off S=>simp only [TT.kill];split<;>exact ⟨by funext k;simp [rg],by simp [rb]⟩
 | _=>cases x with
  | pointer a=>cases a<;>exact ⟨rfl,rfl⟩
  | _=>exact ⟨rfl,rfl⟩
theorem Tj {M:List Nat}:∀{cs:List CT},CT.mens M cs=false->cs.map (nO M)=cs
 | [],_=>rfl
 | c::cs,h=>by
  simp only [CT.mens,Bool.or_eq_false_iff] at h;simp [nO,h.1,Tj h.2]
theorem aiF {w w':World} {tag:TT} {x:Value} (h:∀b,rb tag x=some b->Same w w' b):Agr (rg w tag x) (rg w' tag x):=by
 intro k hk;cases tag with
 | box cs=>
  cases x with
  | pointer a=>
   cases a with
   | none=>rfl
   | some a=>
    have:=(h a.block rfl).agr (fun k=>k);exact this k (by simpa [rg] using hk)
  | _=>rfl
 | _=>rfl
section stay
variable {κ κ':aH} {w w':World} {mods M:List Nat} {tg tg':Nat->TT} {sv sv':Nat->AV} {tm tm':Nat->Value} {ac:Nat->Nat->Value}
theorem anR (hro:∀S,(∀m,m∈M->m∉S)->∀b,aW κ w S b->aW κ' w' S b/\Same w w' b)
  (ho:∀b r q,r∉mods->κ b=some (r,q)->κ' b=κ b/\Same w w' b)
  (htg:∀r,r∉mods->∀x,rg w' (tg' r) x=rg w' (tg r) x/\rb (tg' r) x=rb (tg r) x) (hsv:∀r,r∉mods->sv' r=sv r) (htm:∀r,r∉mods->tm' r=tm r)
  {t:Nat} (ht:t∉mods) (h:TR ac κ w tg sv tm t (tg t)):TR ac κ' w' tg' sv' tm' t ((tg t).kill mods M):=by
 have hsvt:=hsv t ht;have htmt:=htm t ht;cases hT:tg t with
 | dead=>simp [TT.kill,TR]
 | val ag cs=>
  rw [hT] at h;simp only [TT.kill,TR,hsvt,htmt] at h ⊢;obtain ⟨as,vs,h1,h2,h3,hp,h4⟩:=h;exact ⟨as,vs,h1,h2,by simpa using h3,XR (fun _ _=>rfl) hp,GK hro (fun b q hb=>ho b t q ht hb) (fun _ _=>rfl) h4⟩
 | tup ws cs=>
  rw [hT] at h;simp only [TT.kill,TR,hsvt,htmt] at h ⊢;obtain ⟨as,xs,vs,h1,h2,h3,h4,h5⟩:=h;exact ⟨as,xs,vs,h1,h2,h3,by simpa using h4,GK hro (fun b q hb=>ho b t q ht hb) (fun _ _=>rfl) h5⟩
 | box cs=>
  rw [hT] at h;simp only [TT.kill,TR,hsvt,htmt] at h ⊢;obtain ⟨as,b,h1,h2,hb,h3,h4,hp,h5⟩:=h;obtain ⟨hk,hs⟩:=ho b t [] ht h3;have hc:∀i,i<cs.length->cellD w' b i=cellD w b i:=fun i hi=>hs.cD h4.rdb (Nat.zero_le _) hi
  exact ⟨as,b,h1,h2,hs.1 hb,by rw [hk];exact h3,by rw [List.length_map];exact hs.wrb h4,XR hc hp,GK hro (fun b q hb=>ho b t q ht hb) (fun i hi=>by simpa using hc i hi) h5⟩
 | alias ag cs r sk off S=>
  rw [hT] at h;simp only [TT.kill];split
  ·simp [TR]
  ·rename_i hk;simp only [Bool.or_eq_true,not_or,Bool.not_eq_true] at hk;obtain ⟨⟨hr,hS⟩,hm⟩:=hk;have hr':r∉mods:=by simpa using hr
   have hroS:=hro S (DW hS);simp only [TR,hsvt,htmt,htm r hr',hsv r hr',(htg r hr' (tm r)).2,show rg w' (tg' r) (tm r)=rg w' (tg r) (tm r) from (htg r hr' (tm r)).1] at h ⊢;obtain ⟨as,is,vs,g,ra,row,h1,h2,h3,hl,h4,h5,h6,h7,h8,h9,h10,h11,h12⟩:=h;have hagr:=aiF (tag:=tg r) (x:=tm r) (fun b hb=>(ho b r [] hr' (h7 b hb)).2);have h4':ax κ' w' cs (t,[]) 0 (fun k=>vs.getD k undef) as:=by
    have:=GK (κ':=κ') (w':=w') (M:=M) hro (fun b q hb=>ho b t q ht hb) (fun _ _=>rfl) h4;rwa [Tj hm] at this
   cases sk with
   | nil=>
    cases is with
    | cons=>simp [dU] at h5
    | nil=>
     simp only [dU,aF] at h5;subst h5;exact ⟨as,[],vs,_,ra,row,h1,h2,h3,hl,h4',rfl,by simp [PO],fun b hb=>by rw [(ho b r [] hr' (h7 b hb)).1];exact h7 b hb,h8,
      fun k hk=>⟨by rw [hagr _ (by rw [(h9 k hk).1];exact (h9 k hk).2)];exact (h9 k hk).1,(h9 k hk).2⟩,h10,h11,h12⟩
   | cons s sk=>
    simp only [dU,Option.map_eq_some_iff] at h5;obtain ⟨BO,h5,rfl⟩:=h5;have hw:=uR hroS hagr h6 h5;have hB:aW κ w S BO.1:=by
     obtain ⟨B,O⟩:=BO;exact aet (by simp) h6 h5
    have hcell:=((hroS BO.1 hB).2).agr (fun k=>BO.2+k);refine ⟨as,is,vs,fun k=>cellD w' BO.1 (BO.2+k),ra,row,h1,h2,h3,hl,h4',by simp only [dU,hw.1,Option.map_some],hw.2,fun b hb=>by rw [(ho b r [] hr' (h7 b hb)).1];exact h7 b hb,h8,
     fun k hk=>⟨?_,(h9 k hk).2⟩,h10,h11,h12⟩
    have:=hcell (off+k) (by rw [(h9 k hk).1];exact (h9 k hk).2);simp only at this ⊢;rw [this];exact (h9 k hk).1
 | ptr r sk off S=>
  rw [hT] at h;simp only [TT.kill];split
  ·simp [TR]
  ·rename_i hk;simp only [Bool.or_eq_true,not_or,Bool.not_eq_true] at hk;obtain ⟨hr,hS⟩:=hk;have hr':r∉mods:=by simpa using hr
   have hroS:=hro S (DW hS);simp only [TR,hsvt,htmt,htm r hr',(htg r hr' (tm r)).2,show rg w' (tg' r) (tm r)=rg w' (tg r) (tm r) from (htg r hr' (tm r)).1] at h ⊢;obtain ⟨is,B,O,h1,h2,h3,h4,h5⟩:=h;have hagr:=aiF (tag:=tg r) (x:=tm r) (fun b hb=>(ho b r [] hr' (h4 b hb)).2);have:=uR hroS hagr h3 h2;exact ⟨is,B,O,h1,this.1,this.2,fun b hb=>by rw [(ho b r [] hr' (h4 b hb)).1];exact h4 b hb,h5⟩
end stay
end Go.Fw
namespace Go.Fw
structure Fr (κ0:aH) (w0:World) (κ:aH) (w:World):Prop where
 size:w0.heap.size<=w.heap.size
 kept:∀b,b<w0.heap.size->κ0 b=none->κ b=none/\w.heap[b]?=w0.heap[b]?
 os:w.os=w0.os
 out:w.output=w0.output
 tape:w.tape=w0.tape
def FB:Nat:=1000000000
theorem Same.trans {w w1 w2:World} {b:Nat} (h:Same w w1 b) (h':Same w1 w2 b):Same w w2 b:=
 ⟨fun hb=>h'.1 (h.1 hb),fun o x hx=>⟨(h'.2 o x (h.2 o x hx).1).1,by rw [(h'.2 o x (h.2 o x hx).1).2,(h.2 o x hx).2]⟩⟩
structure R (ac:Nat->Nat->Value) (κ0:aH) (w0:World) (κ:aH) (w:World) (N:Nat) (tg:Nat->TT) (sv:Nat->AV) (tm:Nat->Value):Prop where
 tr:∀t,TR ac κ w tg sv tm t (tg t)
 out:∀t,N<=t->tg t = .dead
 col:∀b,w.heap.size<=b->κ b=none
 fr:Fr κ0 w0 κ w
 fb:∀b q,κ0 b=some (FB,q)->κ b=some (FB,q)/\Same w0 w b
 nle:N<=FB
def upd {α:Type} (f:Nat->α) (d:Nat) (v:α) (t:Nat):α:=if t=d then v else f t
theorem bC {α:Type} (f:Nat->α) (d:Nat) (v:α):upd f d v d=v:=by simp [upd]
theorem upd_ne {α:Type} (f:Nat->α) (d:Nat) (v:α) {t:Nat} (h:t≠d):upd f d v t=f t:=by simp [upd,h]
section
variable {ac:Nat->Nat->Value} {κ0 κ κ':aH} {w0 w w':World} {N:Nat} {tg tg':Nat->TT} {sv sv':Nat->AV} {tm tm':Nat->Value} {mods M:List Nat}
theorem oJ (h:R ac κ0 w0 κ w N tg sv tm) (hfb:FB∉mods)
  (hro:∀S,(∀m,m∈M->m∉S)->∀b,aW κ w S b->aW κ' w' S b/\Same w w' b)
  (ho:∀b r q,r∉mods->κ b=some (r,q)->κ' b=κ b/\Same w w' b)
  (htg:∀r,r∉mods->tg' r=(tg r).kill mods M\/(∀x,rg w' (tg' r) x=rg w' (tg r) x/\rb (tg' r) x=rb (tg r) x)/\TR ac κ' w' tg' sv' tm' r (tg' r))
  (hsv:∀r,r∉mods->sv' r=sv r) (htm:∀r,r∉mods->tm' r=tm r)
  (hm:∀t,t∈mods->TR ac κ' w' tg' sv' tm' t (tg' t)) (hout:∀t,N<=t->tg' t = .dead)
  (hcol:∀b,w'.heap.size<=b->κ' b=none) (hfr:Fr κ0 w0 κ' w'):R ac κ0 w0 κ' w' N tg' sv' tm':=by
 refine ⟨fun t => ?_,hout,hcol,hfr,fun b q hb => ?_,h.nle⟩;case refine_2=>
  obtain ⟨h1,h2⟩:=h.fb b q hb
  obtain ⟨h3,h4⟩:=ho b FB q hfb h1
  exact ⟨by rw [h3];exact h1,h2.trans h4⟩
 by_cases ht:t∈mods
 ·exact hm t ht
 ·rcases htg t ht with h1|h1
  ·rw [h1];refine anR hro ho (fun r hr x => ?_) hsv htm ht (h.tr t);rcases htg r hr with h2|h2
   ·rw [h2];exact jP w' mods M (tg r) x
   ·exact h2.1 x
  ·exact h1.2
end
theorem XT (c:CT):nO [] c=c:=by
 have h:c.men []=false:=by
  have key:(∀c:CT,c.men []=false)/\∀cs:List CT,CT.mens [] cs=false:=by
   refine ⟨fun c => ?_,fun cs => ?_⟩
   ·exact men_nil c
   ·exact mens_nil cs
  exact key.1 c
 simp [nO,h]
where
 men_nil:∀c:CT,c.men []=false
  | .d=>by simp [CT.men]
  | .sl (.ro S) e=>by simp [CT.men,mens_nil e]
  | .sl (.own _) e=>by simp [CT.men,mens_nil e]
  | .sl .dead e=>by simp [CT.men,mens_nil e]
 mens_nil:∀cs:List CT,CT.mens [] cs=false
  | []=>by simp [CT.mens]
  | c::cs=>by simp [CT.mens,men_nil c,mens_nil cs]
def aU (κ:aH) (F:Pl->Option Pl) (nb:Option (Nat × Pl)):aH:=fun b=>
 match nb with
 | some (b',p)=>if b=b' then some p else (κ b).bind F
 | none=>(κ b).bind F
section
variable {ac:Nat->Nat->Value} {κ0 κ:aH} {w0 w w':World} {N:Nat} {tg tg':Nat->TT} {sv sv':Nat->AV} {tm tm':Nat->Value} {mods M:List Nat}
structure Grows (w w':World):Prop where
 size:w.heap.size<=w'.heap.size
 old:∀b,b<w.heap.size->w'.heap[b]?=w.heap[b]?
 os:w'.os=w.os
 out:w'.output=w.output
 tape:w'.tape=w.tape
theorem Grows.refl (w:World):Grows w w:=⟨Nat.le_refl _,fun _ _=>rfl,rfl,rfl,rfl⟩
theorem cell?_none {w:World} {b o:Nat} (h:w.heap.size<=b):w.cell? ⟨b,o,none⟩=none:=by
 simp [World.cell?,Array.getElem?_eq_none h]
theorem Grows.same {w w':World} (h:Grows w w') (b:Nat):Same w w' b:=by
 refine ⟨fun hb=>Nat.lt_of_lt_of_le hb h.size,fun o x hx => ?_⟩;by_cases hb:b<w.heap.size
 ·have:=h.old b hb;simp only [World.cell?,World.frozen?,this] at hx ⊢;exact ⟨hx,trivial⟩
 ·rw [cell?_none (by omega)] at hx;cases hx
theorem Fr.step {w w':World} {κ κ':aH} {κ0:aH} {w0:World} (h:Fr κ0 w0 κ w) (hg:Grows w w') (hk:∀b,b<w.heap.size->κ b=none->κ' b=none):Fr κ0 w0 κ' w':=
 ⟨Nat.le_trans h.size hg.size,fun b hb h0=>⟨hk b (Nat.lt_of_lt_of_le hb h.size) (h.kept b hb h0).1,by rw [hg.old b (Nat.lt_of_lt_of_le hb h.size)];exact (h.kept b hb h0).2⟩,
  by rw [hg.os,h.os],by rw [hg.out,h.out],by rw [hg.tape,h.tape]⟩
theorem Wp (h:R ac κ0 w0 κ w N tg sv tm) (hfb:FB∉mods) {F:Pl->Option Pl} {nb:Option (Nat × Pl)} (hw:Grows w w')
  (hF:∀r q,r∉mods->F (r,q)=some (r,q)) (hM:∀r q p,F (r,q)=some p->r∉M->p=(r,q))
  (hnb:∀b p,nb=some (b,p)->w.heap.size<=b/\b<w'.heap.size)
  (htg:∀r,r∉mods->tg' r=(tg r).kill mods M) (hsv:∀r,r∉mods->sv' r=sv r) (htm:∀r,r∉mods->tm' r=tm r)
  (hm:∀t,t∈mods->TR ac (aU κ F nb) w' tg' sv' tm' t (tg' t)) (hout:∀t,N<=t->tg' t = .dead):R ac κ0 w0 (aU κ F nb) w' N tg' sv' tm':=by
 have hne:∀b,b<w.heap.size->aU κ F nb b=(κ b).bind F:=by
  intro b hb;unfold aU;cases nb with
  | none=>rfl
  | some q=>
   obtain ⟨b',p⟩:=q;have:=hnb b' p rfl;simp only;rw [if_neg (by omega)]
 have hcol:∀b p,κ b=some p->b<w.heap.size:=fun b p hb=>by
  apply Nat.lt_of_not_le;intro hle;rw [h.col b hle] at hb;cases hb
 refine oJ (mods:=mods) (M:=M) h hfb (fun S hS b hb=>⟨⟨Nat.lt_of_lt_of_le hb.1 hw.size,fun r p hr => ?_⟩,hw.same b⟩) (fun b r q hr hb=>⟨?_,hw.same b⟩) (fun r hr=>.inl (htg r hr)) hsv htm hm hout (fun b hb => ?_) ?_
 ·rw [hne b hb.1] at hr;cases hk:κ b with
  | none=>simp [hk] at hr
  | some p0=>
   obtain ⟨r0,q0⟩:=p0;simp only [hk,aa] at hr;by_cases hrM:r0∈M
   ·exact absurd (hb.2 r0 q0 hk).1 (hS r0 hrM)
   ·have:=hM r0 q0 _ hr hrM;cases this;exact hb.2 _ _ hk
 ·rw [hne b (hcol b _ hb),hb];simp [hF r q hr]
 ·have hb':w.heap.size<=b:=Nat.le_trans hw.size hb;unfold aU;cases nb with
  | none=>simp [h.col b hb']
  | some q=>
   obtain ⟨b',p⟩:=q;have:=hnb b' p rfl;simp only;rw [if_neg (by omega)];simp [h.col b hb']
 ·exact h.fr.step hw fun b hb hk=>by rw [hne b hb,hk];rfl
end
end Go.Fw
namespace Go.Fw
theorem run_pure {α:Type} (a:α) (P:Program) (w:World):(pure a:Sem α).run P w = .ok a w:=rfl
theorem run_bind {α β:Type} (e:Sem α) (f:α->Sem β) (P:Program):∀w:World,(e >>= f).run P w=match e.run P w with
  | .ok a w'=>(f a).run P w'
  | .halt h w'=>.halt h w':=by
 show ∀w,(e.bind f).run P w=_;induction e with
 | pure a=>intro w;rfl
 | load m a k ih=>
  intro w;simp only [Sem.bind,Sem.run]
  (repeat' split)<;>simp_all
 | store m a v k ih=>
  intro w;cases v<;>simp only [Sem.bind,Sem.run]<;>((repeat' split)<;>simp_all)
 | new o k ih=>intro w;simp only [Sem.bind,Sem.run];exact ih _ _
 | shape r k ih=>intro w;simp only [Sem.bind,Sem.run];exact ih _ _
 | freeze a n k ih=>intro w;simp only [Sem.bind,Sem.run];exact ih _
 | frozen a k ih=>intro w;simp only [Sem.bind,Sem.run];exact ih _ _
 | getObj r k ih=>
  intro w;simp only [Sem.bind,Sem.run];split<;>simp_all
 | setObj r o k ih=>
  intro w;simp only [Sem.bind,Sem.run];split<;>simp_all
 | choose q k ih=>
  intro w;simp only [Sem.bind,Sem.run];split<;>simp_all
 | sys c k ih=>intro w;simp only [Sem.bind,Sem.run];exact ih _ _
 | program k ih=>intro w;simp only [Sem.bind,Sem.run];exact ih _ _
 | mark m k ih=>intro w;simp only [Sem.bind,Sem.run];exact ih _
 | halt h=>intro w;rfl
theorem az {α β:Type} {e:Sem α} {f:α->Sem β} {P:Program} {w w':World} {a:α} (h:e.run P w = .ok a w'):(e >>= f).run P w=(f a).run P w':=by
 rw [run_bind,h]
theorem run_underlying {P:Program} {t:TypeId} {d:TypeDesc} (h:P.underlying t=some d) (w:World):(underlying t).run P w = .ok d w:=by
 simp [underlying,program,bind,Sem.bind,Sem.run,h,pure]
theorem run_typeInfo {P:Program} {t:TypeId} {i:TypeInfo} (h:P.info? t=some i) (w:World):(typeInfo t).run P w = .ok i w:=by
 simp [typeInfo,program,bind,Sem.bind,Sem.run,h,pure]
theorem run_sizeOf {P:Program} {t:TypeId} {i:TypeInfo} (h:P.info? t=some i) (w:World):(sizeOf t).run P w = .ok i.size w:=by
 unfold sizeOf;rw [az (run_typeInfo h w)];rfl
theorem Ac {P:Program} {t:TypeId} {i:TypeInfo} {z:Value} (h:P.info? t=some i) (hz:i.zero=some z) (w:World):(zeroValue t).run P w = .ok z w:=by
 unfold zeroValue;rw [az (run_typeInfo h w)];simp [hz,pure,Sem.run]
def rF (P:Program) (t:TypeId):Option Bool:=
 match P.underlying t with
 | some (.struct _)=>some true
 | some (.array _ _)=>none
 | some _=>some false
 | none=>none
theorem CV {P:Program} {t:TypeId} {g:Bool} (h:rF P t=some g) (w:World):(isAgg t).run P w = .ok g w:=by
 unfold rF at h;unfold isAgg;cases hu:P.underlying t with
 | none=>simp [hu] at h
 | some d=>
  rw [az (run_underlying hu w)];cases d<;>simp [hu] at h<;>subst h<;>rfl
def dN (w:World) (cells:Array Value) (t:TypeId):World:={ w with heap:=w.heap.push (.cells cells t) }
theorem oK (w:World) (cells:Array Value) (t:TypeId):Grows w (dN w cells t):=
 ⟨by simp [dN],fun b hb=>by simp only [dN];rw [Array.getElem?_push_lt hb,Array.getElem?_eq_getElem hb],rfl,rfl,rfl⟩
theorem Tk (w:World) (cells:Array Value) (t:TypeId) (o:Nat):(dN w cells t).cell? ⟨w.heap.size,o,none⟩=cells[o]?:=by
 have:(dN w cells t).heap[w.heap.size]?=some (.cells cells t):=Array.getElem?_push_size;unfold World.cell?;simp only [this];rfl
theorem LJ (w:World) (cells:Array Value) (t:TypeId) (lo hi:Nat) (h:hi<=cells.size):Wrb (dN w cells t) w.heap.size lo hi:=by
 intro o _ h2;refine ⟨⟨cells[o]'(by omega),by rw [Tk];simp [show o<cells.size by omega]⟩,?_⟩;have:(dN w cells t).heap[w.heap.size]?=some (.cells cells t):=Array.getElem?_push_size;unfold World.frozen?;simp only [this];simp
theorem DY (w:World) (cells:Array Value) (t:TypeId) (o:Nat):cellD (dN w cells t) w.heap.size o=cells.toList.getD o undef:=by
 simp [cellD,Tk,bN]
theorem lm {P:Program} (elem:TypeId) (cells:Array Value) (w:World):(newRow elem cells).run P w = .ok ⟨w.heap.size,0,none⟩ (dN w cells elem):=by
 simp [newRow,newObj,bind,Sem.bind,Sem.run,pure,dN]
theorem anS {P:Program} (elem:TypeId) (v:Value) (w:World):(Instr.box elem v).run P w = .ok (.pointer (some ⟨w.heap.size,0,none⟩)) (dN w v.cells elem):=by
 unfold Instr.box newVar;rw [az (lm elem v.cells w)];rfl
theorem aiG {P:Program} {elem:TypeId} {i:TypeInfo} {z:Value} (h:P.info? elem=some i) (hz:i.zero=some z) (w:World) :
  (Instr.alloc elem true (.tuple #[])).run P w = .ok (.pointer (some ⟨w.heap.size,0,none⟩)) (dN w z.cells elem):=by
 unfold Instr.alloc;rw [az (Ac h hz w)];simp only;unfold newVar;rw [az (lm elem z.cells w)];rfl
theorem uT (b o k:Nat):(Addr.add ⟨b,o,none⟩ k)=⟨b,o+k,none⟩:=by
 unfold Addr.add;split
 ·simp_all
 ·rfl
theorem LK {P:Program} {a:Addr} {x:Value} {w:World} (h:w.cell? a=some x):(load a).run P w = .ok x w:=by
 simp [load,Sem.run,h]
theorem run_loadCellsFrom {P:Program} {b o:Nat} {w:World}:∀(n i:Nat) (acc:Array Value),Rdb w b (o+i) (o+i+n) ->
  (loadCellsFrom ⟨b,o,none⟩ i n acc).run P w = .ok (acc++((List.range n).map fun k=>cellD w b (o+i+k)).toArray) w
 | 0,i,acc,_=>by simp [loadCellsFrom,pure,Sem.run]
 | n+1,i,acc,h=>by
  obtain ⟨x,hx⟩:=h (o+i) (Nat.le_refl _) (by omega);unfold loadCellsFrom;rw [uT,az (LK hx),run_loadCellsFrom n (i+1) _ (fun o' h1 h2=>h o' (by omega) (by omega))];congr 1;have:cellD w b (o+i)=x:=by simp [cellD,hx]
  apply Array.ext';simp only [Array.toList_append,Array.toList_push,List.range_succ_eq_map,List.map_cons,List.map_map,Nat.add_zero,this,List.append_assoc,List.singleton_append];congr 2;apply List.map_congr_left;intro k _;simp only [Function.comp];congr 1;omega
theorem run_loadCells {P:Program} {b o n:Nat} {w:World} (h:Rdb w b o (o+n)) :
  (loadCells ⟨b,o,none⟩ n).run P w = .ok ((List.range n).map fun k=>cellD w b (o+k)).toArray w:=by
 unfold loadCells;rw [run_loadCellsFrom n 0 #[] (by simpa using h)];simp
theorem Tm {P:Program} {t:TypeId} {i:TypeInfo} {g:Bool} {b o:Nat} {w:World} (hi:P.info? t=some i) (hg:rF P t=some g) (h1:g=false->i.size=1)
  (h:Rdb w b o (o+i.size)):∃v,(Instr.loadAt t (.pointer (some ⟨b,o,none⟩))).run P w = .ok v w /\
   (g=true->v = .agg ((List.range i.size).map fun k=>cellD w b (o+k)).toArray)/\(g=false->v=cellD w b o):=by
 unfold Instr.loadAt;have hs:(Instr.sureAddr (.pointer (some ⟨b,o,none⟩))).run P w = .ok ⟨b,o,none⟩ w:=rfl;rw [az hs];unfold loadVar;rw [az (CV hg w)];cases g with
 | true=>
  simp only [if_true];rw [az (run_sizeOf hi w),az (run_loadCells h)];exact ⟨_,rfl,fun _=>rfl,fun h=>by cases h⟩
 | false=>
  obtain ⟨x,hx⟩:=h o (Nat.le_refl _) (by have:=h1 rfl;omega);exact ⟨x,LK hx,(fun h=>by cases h),fun _=>(by simp [cellD,hx])⟩
end Go.Fw
namespace Go.Fw
def mW:Value->Bool
 | .agg _ | .tuple _=>false
 | _=>true
def bB (w:World) (b o:Nat):List Value->World
 | []=>w
 | v::vs=>bB (w.setCell ⟨b,o,none⟩ v) b (o+1) vs
theorem aak (w:World) (a:Addr) (v:Value):(w.setCell a v).heap.size=w.heap.size:=by simp [World.setCell]
theorem Tn (w:World) (a:Addr) (v:Value) (b:Nat) (h:b≠a.block):(w.setCell a v).heap[b]?=w.heap[b]?:=by
 simp [World.setCell,Array.getElem?_modify,Ne.symm h]
theorem aal (w:World) (b o b' o':Nat) (v:Value) :
  (w.setCell ⟨b,o,none⟩ v).cell? ⟨b',o',none⟩=if b'=b/\o'=o then (w.cell? ⟨b,o,none⟩).map fun _=>v else w.cell? ⟨b',o',none⟩:=by
 unfold World.cell? World.setCell;simp only [Array.getElem?_modify];by_cases hb:b'=b
 ·subst hb;simp only [if_true,true_and];cases hw:w.heap[b']? with
  | none=>simp
  | some x=>
   cases x<;>simp;rename_i c elem fz;rw [Array.getElem?_setIfInBounds];by_cases ho:o'=o
   ·subst ho;simp only [if_true];by_cases hs:o'<c.size
    ·simp [hs]
    ·simp [hs]
   ·simp [ho,Ne.symm ho]
 ·simp [hb,Ne.symm hb]
theorem Wq (w:World) (b o b' o':Nat) (v:Value):(w.setCell ⟨b,o,none⟩ v).frozen? ⟨b',o',none⟩=w.frozen? ⟨b',o',none⟩:=by
 unfold World.frozen? World.setCell;simp only [Array.getElem?_modify];by_cases hb:b'=b
 ·subst hb;simp only [if_true];cases hw:w.heap[b']? with
  | none=>simp
  | some x=>cases x<;>simp
 ·simp [Ne.symm hb]
theorem jk:∀(vs:List Value) (w:World) (b o:Nat),(bB w b o vs).heap.size=w.heap.size/\(bB w b o vs).os=w.os/\(bB w b o vs).output=w.output /\
  (bB w b o vs).tape=w.tape/\(∀b',b'≠b->(bB w b o vs).heap[b']?=w.heap[b']?)/\∀b' o',(bB w b o vs).frozen? ⟨b',o',none⟩=w.frozen? ⟨b',o',none⟩
 | [],w,b,o=>⟨rfl,rfl,rfl,rfl,fun _ _=>rfl,fun _ _=>rfl⟩
 | v::vs,w,b,o=>by
  obtain ⟨h1,h2,h3,h4,h5,h6⟩:=jk vs (w.setCell ⟨b,o,none⟩ v) b (o+1);refine ⟨by simp only [bB];rw [h1,aak],by simp only [bB];rw [h2];rfl,by simp only [bB];rw [h3];rfl,by simp only [bB];rw [h4];rfl,fun b' hb' => ?_,fun b' o' => ?_⟩
  ·simp only [bB];rw [h5 b' hb',Tn w _ v b' hb']
  ·simp only [bB];rw [h6,Wq]
theorem eZ:∀(vs:List Value) (w:World) (b o b' o':Nat),
  (bB w b o vs).cell? ⟨b',o',none⟩=if b'=b/\o<=o'/\o'<o+vs.length then (w.cell? ⟨b',o',none⟩).map fun _=>vs.getD (o'-o) undef else w.cell? ⟨b',o',none⟩
 | [],w,b,o,b',o'=>by
  simp only [bB,List.length_nil,Nat.add_zero];rw [if_neg (by omega)]
 | v::vs,w,b,o,b',o'=>by
  simp only [bB,aX];rw [eZ vs,aal];by_cases hb:b'=b
  ·subst hb;by_cases ho:o'=o
   ·subst ho;rw [if_neg (by omega),if_pos (by simp),if_pos (by omega)];simp
   ·by_cases h1:o+1<=o'/\o'<o+1+vs.length
    ·rw [if_pos (by omega),if_neg (by omega),if_pos (by omega)];congr 1;funext _;rw [show o'-o=(o'-(o+1))+1 from by omega];rfl
    ·rw [if_neg (by omega),if_neg (by omega),if_neg (by omega)]
  ·simp [hb]
theorem bZ {w:World} {b o:Nat} {vs:List Value} {b':Nat} (h:b'≠b):Same w (bB w b o vs) b':=by
 refine ⟨fun hb=>by rw [(jk vs w b o).1];exact hb,fun o' x hx=>⟨?_,(jk vs w b o).2.2.2.2.2 _ _⟩⟩;rw [eZ,if_neg (by simp [h])];exact hx
theorem jQ {w:World} {b o:Nat} {vs:List Value} {b' lo hi:Nat} (h:Wrb w b' lo hi):Wrb (bB w b o vs) b' lo hi:=by
 intro o' h1 h2;obtain ⟨⟨x,hx⟩,hf⟩:=h o' h1 h2;refine ⟨?_,by rw [(jk vs w b o).2.2.2.2.2];exact hf⟩;rw [eZ];split
 ·exact ⟨_,by rw [hx];rfl⟩
 ·exact ⟨x,hx⟩
theorem wE {w:World} {b o:Nat} {vs:List Value} (h:Wrb w b o (o+vs.length)) (k:Nat) (hk:k<vs.length):cellD (bB w b o vs) b (o+k)=vs.getD k undef:=by
 obtain ⟨⟨x,hx⟩,_⟩:=h (o+k) (by omega) (by omega);unfold cellD;rw [eZ,if_pos ⟨rfl,by omega,by omega⟩,hx,show o+k-o=k from by omega];simp
theorem run_store {P:Program} {b o:Nat} {v x:Value} {w:World} (h1:mW v=true) (hx:w.cell? ⟨b,o,none⟩=some x) (hf:w.frozen? ⟨b,o,none⟩=false) :
  (store ⟨b,o,none⟩ v).run P w = .ok () (w.setCell ⟨b,o,none⟩ v):=by
 unfold store;cases v<;>simp [mW] at h1<;>simp [Sem.run,hx,hf]
theorem uU {P:Program} {b o:Nat}:∀(vs:List Value) (i:Nat) (w:World),vs.all mW=true->Wrb w b (o+i) (o+i+vs.length) ->
  (storeCells ⟨b,o,none⟩ vs i).run P w = .ok () (bB w b (o+i) vs)
 | [],i,w,_,_=>by simp [storeCells,pure,Sem.run,bB]
 | v::vs,i,w,h1,h=>by
  simp only [List.all_cons,aG] at h1;obtain ⟨⟨x,hx⟩,hf⟩:=h (o+i) (Nat.le_refl _) (by simp);unfold storeCells;rw [uT,az (run_store h1.1 hx hf),uU vs (i+1) _ h1.2 ?_]
  ·simp [bB,Nat.add_assoc]
  ·have:bB w b (o+i) [v]=w.setCell ⟨b,o+i,none⟩ v:=rfl;rw [<-this];exact jQ (h.sub (by omega) (by simp;omega))
theorem DZ {P:Program} {t:TypeId} {i:TypeInfo} {b o:Nat} {v:Value} {w:World} (hi:P.info? t=some i) (hv:v.cells.size=i.size) (h1:v.cells.toList.all mW=true)
  (h:Wrb w b o (o+i.size)):(Instr.storeAt t (.pointer (some ⟨b,o,none⟩)) v).run P w = .ok () (bB w b o v.cells.toList):=by
 unfold Instr.storeAt;have hs:(Instr.sureAddr (.pointer (some ⟨b,o,none⟩))).run P w = .ok ⟨b,o,none⟩ w:=rfl;rw [az hs];unfold storeVar;rw [az (run_sizeOf hi w)];have hne:¬(v.cells.size≠i.size):=by simp [hv]
 have:=uU (P:=P) v.cells.toList 0 w h1 (by simpa [hv] using h) (b:=b) (o:=o);simp only [Nat.add_zero] at this;simp only [if_neg hne];exact this
theorem adf {P:Program} {s:TypeId} {fs:Array Field} {f:Nat} {fi:Field} {i:TypeInfo} {b o:Nat} {w:World} (h:P.underlying s=some (.struct fs)) (hf:fs[f]?=some fi)
  (hi:P.info? fi.type=some i) (h0:i.size≠0):(Instr.fieldAt s (.pointer (some ⟨b,o,none⟩)) f).run P w = .ok (.pointer (some ⟨b,o+fi.offset,none⟩)) w:=by
 unfold Instr.fieldAt;rw [az (run_underlying h w)];simp only [hf];have hs:(Instr.sureAddr (.pointer (some ⟨b,o,none⟩))).run P w = .ok ⟨b,o,none⟩ w:=rfl;rw [az hs];unfold fieldPlace;have h2:((do if (<-sizeOf fi.type)=0 then partAt ⟨b,o,none⟩ fi.offset fi.byteOffset else pure (Addr.add ⟨b,o,none⟩ fi.offset)):Sem Addr).run P w = .ok ⟨b,o+fi.offset,none⟩ w:=by
  rw [az (run_sizeOf hi w),if_neg h0,uT];rfl
 rw [az h2];rfl
theorem run_indexAt {P:Program} {t e:TypeId} {i:TypeInfo} {b o len cap:Nat} {k:IntKind} {n:Int} {w:World} (h:P.underlying t=some (.slice e)) (hi:P.info? e=some i)
  (h0:0<=n) (h1:n<len):(Instr.indexAt t (.slice (some ⟨b,o,none⟩) len cap) (.int k n)).run P w = .ok (.pointer (some ⟨b,o+n.toNat*i.size,none⟩)) w:=by
 unfold Instr.indexAt;have hs:(asIntOf (.int k n)).run P w = .ok (k,n) w:=rfl;rw [az hs];simp only;rw [az (run_underlying h w)];simp only;rw [az (run_pure _ P w),az (run_underlying h w)];simp only [h0,h1,and_self,if_true];rw [az (run_sizeOf hi w),uT];rfl
theorem XU {P:Program} {t e:TypeId} {i:TypeInfo} {ao:Option Addr} {len cap:Nat} {lo hi:Option Value} {l h:Nat} {w:World} (hu:P.underlying t=some (.slice e)) (hi':P.info? e=some i)
  (hlo:(lo=none/\l=0)\/∃k,lo=some (.int k (l:Int))) (hhi:(hi=none/\h=len)\/∃k,hi=some (.int k (h:Int))) (h1:l<=h) (h2:h<=cap) :
  (Instr.sliceAt t (.slice ao len cap) lo hi none).run P w = .ok (.slice (if cap=l then ao else ao.map (·.add (l*i.size))) (h-l) (cap-l)) w:=by
 have hb:∀(x y:Nat) (c:BoundsCode) (k:IntKind),x<=y->(Instr.sliceBound (.int k (x:Int)) y c).run P w = .ok x w:=by
  intro x y c k hxy;unfold Instr.sliceBound;have hs:(asIntOf (.int k (x:Int))).run P w = .ok (k,(x:Int)) w:=rfl;rw [az hs];have:(0:Int)<=x/\(x:Int)<=y:=by omega
  simp only [this,and_self,if_true];rfl
 have hbs:(Instr.sliceBounds true len cap lo hi none).run P w = .ok (l,h,cap) w:=by
  unfold Instr.sliceBounds;simp only;rw [az (run_pure cap P w)];rcases hhi with ⟨rfl,rfl⟩|⟨k,rfl⟩
  ·simp only;rw [az (run_pure h P w)];rcases hlo with ⟨rfl,rfl⟩|⟨k,rfl⟩
   ·simp only;rw [az (run_pure 0 P w)];rfl
   ·simp only;rw [az (hb l h _ k h1)];rfl
  ·simp only;rw [az (hb h cap _ k h2)];rcases hlo with ⟨rfl,rfl⟩|⟨k,rfl⟩
   ·simp only;rw [az (run_pure 0 P w)];rfl
   ·simp only;rw [az (hb l h _ k h1)];rfl
 unfold Instr.sliceAt;rw [az (run_underlying hu w)];simp only;unfold Instr.slice;rw [az (run_underlying hu w)];simp only;rw [az hbs];simp only;rw [az (run_sizeOf hi' w)];rfl
end Go.Fw
namespace Go.Fw
theorem XV (need:Nat):∀(r c B:Nat),c<=B->need+(need+768) / 4<=B->Builtin.growBy need r c<=B
 | 0,c,B,h,_=>h
 | r+1,c,B,h,h2=>by
  unfold Builtin.growBy;split
  ·exact h
  ·exact XV need r _ B (by omega) h2
theorem nextslicecap_le (need cap:Nat) (h:cap<need):Builtin.nextslicecap need cap<=2*need+512:=by
 unfold Builtin.nextslicecap;split
 ·omega
 ·split
  ·omega
  ·exact XV need 4 cap _ (by omega) (by omega)
def il (w:World):World:={ w with drawn:=w.drawn+1 }
theorem adg (w:World):Grows w (il w):=⟨Nat.le_refl _,fun _ _=>rfl,rfl,rfl,rfl⟩
theorem Grows.trans {w w1 w2:World} (h:Grows w w1) (h':Grows w1 w2):Grows w w2:=
 ⟨Nat.le_trans h.size h'.size,fun b hb=>by rw [h'.old b (Nat.lt_of_lt_of_le hb h.size),h.old b hb],by rw [h'.os,h.os],by rw [h'.out,h.out],by rw [h'.tape,h.tape]⟩
def behind (w:World) (m:Nat):Option Addr->List Value
 | some a=>(List.range m).map fun k=>cellD w a.block (a.off+k)
 | none=>[]
theorem FJ {P:Program} {size n cap:Nat} {ao:Option Addr} {w:World} (h:n=0\/∃b o,ao=some ⟨b,o,none⟩/\Rdb w b o (o+n*size)) :
  (Builtin.firstCells size n (.slice ao n cap)).run P w = .ok (behind w (n*size) ao).toArray w:=by
 unfold Builtin.firstCells;rcases h with rfl|⟨b,o,rfl,hr⟩
 ·cases ao with
  | none=>rfl
  | some a=>
   simp only [Nat.zero_mul,behind,List.range_zero,List.map_nil];rfl
 ·simp only [behind];exact run_loadCells hr
structure LM (P:Program) (t e:TypeId) (i:TypeInfo) (z:Value):Prop where
 slice:P.underlying t=some (.slice e)
 info:P.info? e=some i
 zero:i.zero=some z
 zsize:z.cells.size=i.size
 bytes:i.bytes<=4096
 pos:0<i.size
theorem af6 {P:Program} {t t2 e e2:TypeId} {i:TypeInfo} {z:Value} {ao xo:Option Addr} {len cap n xc:Nat} {ty:TypeId} {w:World} (hE:LM P t e i z)
  (ht2:P.underlying t2=some (.slice e2)) (hlen:len<=cap) (hlim:len+n<=4294967296)
  (hs:(ao=none/\cap=0)\/∃b o,ao=some ⟨b,o,none⟩/\Wrb w b o (o+cap*i.size))
  (hx:n=0\/∃b o,xo=some ⟨b,o,none⟩/\Rdb w b o (o+n*i.size)) (h1:(behind w (n*i.size) xo).all mW=true) :
  (∃b o,ao=some ⟨b,o,none⟩/\len+n<=cap/\(Builtin.append_ #[t,t2] ty #[.slice ao len cap,.slice xo n xc]).run P w =
   .ok (.slice ao (len+n) cap) (bB w b (o+len*i.size) (behind w (n*i.size) xo))) \/
  (len+n=0/\ao=none/\(Builtin.append_ #[t,t2] ty #[.slice ao len cap,.slice xo n xc]).run P w = .ok (.slice none 0 0) w) \/
  (∃newCap rest,cap<len+n/\len+n<=newCap/\rest.length=(newCap-(len+n))*i.size/\(Builtin.append_ #[t,t2] ty #[.slice ao len cap,.slice xo n xc]).run P w =
   .ok (.slice (some ⟨w.heap.size,0,none⟩) (len+n) newCap) (dN (il w) (behind w (len*i.size) ao++behind w (n*i.size) xo++rest).toArray e)):=by
 have hfc:∀(w':World) (f:Array Value->Sem Value),(∀b o,w'.cell? ⟨b,o,none⟩=w.cell? ⟨b,o,none⟩) ->
   ((Builtin.firstCells i.size n (.slice xo n xc)) >>= f).run P w'=(f (behind w (n*i.size) xo).toArray).run P w':=by
  intro w' f hw';have hb:behind w' (n*i.size) xo=behind w (n*i.size) xo:=by
   cases xo with
   | none=>rfl
   | some a=>simp only [behind,cellD,hw']
  rw [<-hb];refine az (FJ (hx.imp id fun ⟨b,o,h1,h2⟩=>⟨b,o,h1,fun o' g1 g2 => ?_⟩));rw [hw'];exact h2 o' g1 g2
 have hl:(Builtin.lenOf (.slice xo n xc)).run P w = .ok n w:=rfl;unfold Builtin.append_;simp only [List.getElem?_toArray,List.getElem?_cons_zero,List.getElem?_cons_succ];simp only [az (run_underlying hE.slice w)];simp only [az (run_sizeOf hE.info w)];simp only [az (run_underlying ht2 w)];simp only [az (run_pure _ P w),Bool.false_eq_true,if_false,ik,if_true,false_or];simp only [az hl];by_cases hc:len+n<=cap
 ·simp only [hc,if_true];simp only [hfc w _ fun _ _=>rfl];rcases hs with ⟨rfl,rfl⟩|⟨b,o,rfl,hw⟩
  ·refine .inr (.inl ⟨by omega,rfl,?_⟩);have:len+n=0:=by omega
   rw [this];rfl
  ·refine .inl ⟨b,o,rfl,trivial,?_⟩;simp only [uT];have hlen':(behind w (n*i.size) xo).length<=n*i.size:=by cases xo<;>simp [behind]
   have hmul:=Nat.mul_le_mul_right i.size hc;rw [Nat.add_mul] at hmul;have:=uU (P:=P) (b:=b) (o:=o+len*i.size) (behind w (n*i.size) xo) 0 w h1 (hw.sub (by omega) (by omega));simp only [Nat.add_zero] at this;simp only [az this];rfl
 ·simp only [hc,if_false];have hby:¬(((len+n:Nat):Int) > IntKind.i64.max):=by
   have:IntKind.i64.max=9223372036854775807:=by decide
   rw [this];omega
  simp only [az (run_typeInfo hE.info w),hby,false_and,if_false];have hcap:=nextslicecap_le (len+n) cap (by omega);have hb2:¬Builtin.nextslicecap (len+n) cap*i.bytes > 2 ^ 48:=by
   have:=Nat.mul_le_mul hcap hE.bytes;have:(2*(len+n)+512)*4096<=2 ^ 48:=by omega
   omega
  simp only [hb2,if_false];have hch:(choose (.appendCap (len+n) cap e)).run P w = .ok ((Question.appendCap (len+n) cap e).cut (w.tape w.drawn (.appendCap (len+n) cap e))) (il w):=rfl;simp only [az hch];have hge:len+n<=(Question.appendCap (len+n) cap e).cut (w.tape w.drawn (.appendCap (len+n) cap e)):=by
   simp only [Question.cut];omega
  generalize (Question.appendCap (len+n) cap e).cut (w.tape w.drawn (.appendCap (len+n) cap e))=newCap at hge ⊢;have hask:(askRoom (newCap*i.bytes)).run P (il w) = .ok () (il w):=by
   unfold askRoom;split<;>rfl
  simp only [az (run_typeInfo hE.info (il w)),az hask];have hold:(Builtin.firstCells i.size len (.slice ao len cap)).run P (il w) = .ok (behind w (len*i.size) ao).toArray (il w):=by
   have hb:behind w (len*i.size) ao=behind (il w) (len*i.size) ao:=by cases ao<;>rfl
   rw [hb];refine FJ ?_;rcases hs with ⟨_,rfl⟩|⟨b,o,rfl,hw⟩
   ·exact .inl (by omega)
   ·have hmul:=Nat.mul_le_mul_right i.size hlen;exact .inr ⟨b,o,rfl,hw.rdb.sub (Nat.le_refl _) (by omega)⟩
  simp only [az hold];simp only [hfc (il w) _ fun _ _=>rfl];simp only [az (Ac hE.info hE.zero (il w)),az (lm e _ (il w))];refine .inr (.inr ⟨newCap,(Builtin.zeroCells z.cells (newCap-(len+n))).toList,by omega,hge,?_,?_⟩)
  ·simp [Builtin.zeroCells,hE.zsize]
  ·rw [run_pure];congr 1;congr 1;apply Array.ext';simp
end Go.Fw
namespace Go.Fw
def splice {α:Type} (l:List α) (off:Nat) (x:List α):List α:=l.take off++(x++l.drop (off+x.length))
theorem iR {α:Type} {l x:List α} {off:Nat} (h:off+x.length<=l.length):(splice l off x).length=l.length:=by
 simp [splice];omega
theorem adh {α:Type} {l:List α} {off:Nat} {a:α} {x:List α} (h:off+(a::x).length<=l.length):splice l off (a::x)=splice (l.set off a) (off+1) x:=by
 simp only [aX] at h;unfold splice;simp only [aX];rw [List.drop_set_of_lt (by omega)];rw [show off+1+x.length=off+(x.length+1) from by omega,List.take_set,List.take_succ_eq_append_getElem (by omega)];rw [List.set_append_right _ _ (by simp;omega)];have:off-(List.take off l).length=0:=by simp;omega
 rw [this];simp
theorem af7 {α:Type} (l:List α) (off:Nat):splice l off []=l:=by simp [splice]
theorem foldl_set {x:List Value}:∀{cells:Array Value} {off k:Nat},off+k+x.length<=cells.size ->
  ((x.zipIdx k).foldl (fun (cs:Array Value) (p:Value × Nat)=>cs.setIfInBounds (off+p.2) p.1) cells).toList=splice cells.toList (off+k) x:=by
 induction x with
 | nil=>intro cells off k _;simp [af7]
 | cons a x ih=>
  intro cells off k h;simp only [aX] at h;simp only [List.zipIdx_cons,List.foldl_cons];rw [ih (by simp;omega)];rw [adh (by simp;omega)];simp [Nat.add_assoc]
def rG {α:Type} (place:Nat->Option (Nat × Nat)):List α->List (Nat × List α)->Option (List α)
 | cells,[]=>some cells
 | cells,(i,x)::rest=>match place i with
  | none=>none
  | some (off,size)=>if x.length=size/\off+x.length<=cells.length then rG place (splice cells off x) rest else none
theorem Ph {place:Nat->Option (Nat × Nat)}:∀{parts:List (Nat × Value)} {cells:Array Value} {l:List Value},rG place cells.toList (parts.map fun p=>(p.1,p.2.cells.toList))=some l ->
  Instr.fill place cells parts=some l.toArray
 | [],cells,l,h=>by simp only [List.map_nil,rG,aF] at h;subst h;simp [Instr.fill]
 | (i,v)::rest,cells,l,h=>by
  simp only [List.map_cons,rG] at h
  unfold Instr.fill
  cases hp:place i with
  | none=>simp [hp] at h
  | some os=>
   obtain ⟨off,size⟩:=os
   simp only [hp] at h ⊢
   split at h
   ·rename_i hc
    simp only [Array.length_toList] at hc
    have:¬((v.cells.size≠size || decide (off+v.cells.size > cells.size))=true):=by simp;omega
    rw [if_neg this]
    refine Ph ?_
    have hz:(Array.foldl (fun cs (x:Value × Nat)=>match x with | (c,j)=>cs.setIfInBounds (off+j) c) cells v.cells.zipIdx).toList=splice cells.toList off v.cells.toList:=by
     rw [<-Array.foldl_toList];have:=foldl_set (x:=v.cells.toList) (cells:=cells) (off:=off) (k:=0) (by simpa using hc.2);simpa [Array.toList_zipIdx] using this
    rw [hz]
    exact h
   ·cases h
theorem Zh {α:Type} (e:Sem α):e.bind Sem.pure=e:=by
 induction e with
 | pure a=>rfl
 | halt h=>rfl
 | load m a k ih=>simp only [Sem.bind];congr 1;funext x;exact ih x
 | store m a v k ih=>simp only [Sem.bind];rw [ih]
 | new o k ih=>simp only [Sem.bind];congr 1;funext x;exact ih x
 | shape r k ih=>simp only [Sem.bind];congr 1;funext x;exact ih x
 | freeze a n k ih=>simp only [Sem.bind];rw [ih]
 | frozen a k ih=>simp only [Sem.bind];congr 1;funext x;exact ih x
 | getObj r k ih=>simp only [Sem.bind];congr 1;funext x;exact ih x
 | setObj r o k ih=>simp only [Sem.bind];rw [ih]
 | choose q k ih=>simp only [Sem.bind];congr 1;funext x;exact ih x
 | sys c k ih=>simp only [Sem.bind];congr 1;funext x;exact ih x
 | program k ih=>simp only [Sem.bind];congr 1;funext x;exact ih x
 | mark m k ih=>simp only [Sem.bind];rw [ih]
theorem Ws {α β γ:Type} (e:Sem α) (f:α->Sem β) (g:β->Sem γ):(e.bind f).bind g=e.bind fun a=>(f a).bind g:=by
 induction e with
 | pure a=>rfl
 | halt h=>rfl
 | load m a k ih=>simp only [Sem.bind];congr 1;funext x;exact ih x
 | store m a v k ih=>simp only [Sem.bind];rw [ih]
 | new o k ih=>simp only [Sem.bind];congr 1;funext x;exact ih x
 | shape r k ih=>simp only [Sem.bind];congr 1;funext x;exact ih x
 | freeze a n k ih=>simp only [Sem.bind];rw [ih]
 | frozen a k ih=>simp only [Sem.bind];congr 1;funext x;exact ih x
 | getObj r k ih=>simp only [Sem.bind];congr 1;funext x;exact ih x
 | setObj r o k ih=>simp only [Sem.bind];rw [ih]
 | choose q k ih=>simp only [Sem.bind];congr 1;funext x;exact ih x
 | sys c k ih=>simp only [Sem.bind];congr 1;funext x;exact ih x
 | program k ih=>simp only [Sem.bind];congr 1;funext x;exact ih x
 | mark m k ih=>simp only [Sem.bind];rw [ih]
theorem XW:LawfulMonad Sem:=
 LawfulMonad.mk' Sem (id_map:=fun x=>Zh x) (pure_bind:=fun _ _=>rfl) (bind_assoc:=fun x f g=>Ws x f g)
theorem als {α β:Type} {P:Program} {f:α->Sem β} {g:α->β} {as:Array α} (h:∀a,a∈as.toList->∀w,(f a).run P w = .ok (g a) w) (w:World):(as.mapM f).run P w = .ok (as.map g) w:=by
 rw [@Array.mapM_eq_foldlM Sem α β _ XW f as,<-Array.foldlM_toList];have key:∀(l:List α) (acc:Array β),(∀a,a∈l->∀w,(f a).run P w = .ok (g a) w)->(l.foldlM (fun bs a=>bs.push <$> f a) acc:Sem (Array β)).run P w = .ok (acc++(l.map g).toArray) w:=by
  intro l;induction l with
  | nil=>intro acc _;simp [List.foldlM,run_pure]
  | cons a l ih=>
   intro acc hl;simp only [List.foldlM_cons];have:(acc.push <$> f a:Sem (Array β)).run P w = .ok (acc.push (g a)) w:=by
    show ((f a) >>= fun b=>pure (acc.push b)).run P w=_;rw [az (hl a (by simp) w)];rfl
   rw [az this,ih _ fun a ha=>hl a (by simp [ha])];congr 1;apply Array.ext';simp
 rw [key as.toList #[] h];congr 1;apply Array.ext';simp
def placesOf (P:Program) (fs:Array Field):List (Nat × Nat):=fs.toList.map fun f=>(f.offset,((P.info? f.type).map (·.size)).getD 0)
theorem run_build {P:Program} {t:TypeId} {fs:Array Field} {i:TypeInfo} {z:Value} {parts:Array (Nat × Value)} {l:List Value} {w:World} (hu:P.underlying t=some (.struct fs))
  (hi:P.info? t=some i) (hz:i.zero=some z) (hf:fs.toList.all (fun f=>(P.info? f.type).isSome)=true)
  (hl:rG (fun k=>(placesOf P fs)[k]?) z.cells.toList (parts.toList.map fun p=>(p.1,p.2.cells.toList))=some l):(Instr.build t parts).run P w = .ok (.agg l.toArray) w:=by
 unfold Instr.build;rw [az (Ac hi hz w)];simp only;rw [az (run_underlying hu w)];simp only;have hm:=als (P:=P) (f:=fun f:Field=>(do pure (f.offset,<-sizeOf f.type):Sem (Nat × Nat))) (g:=fun f=>(f.offset,((P.info? f.type).map (·.size)).getD 0)) (as:=fs) (by
  intro a ha w
  have:=List.all_eq_true.1 hf a ha
  obtain ⟨ia,hia⟩:=Option.isSome_iff_exists.1 this
  rw [az (run_sizeOf hia w)]
  simp [hia,run_pure]) w
 rw [az hm];have h2:(fun k:Nat=>(fs.map fun f:Field=>(f.offset,((P.info? f.type).map (·.size)).getD 0))[k]?)=fun k:Nat=>(placesOf P fs)[k]?:=by
  funext k;simp [placesOf]
 rw [h2,Ph hl];rfl
theorem run_buildSlice {P:Program} {t e:TypeId} {i:TypeInfo} {z:Value} {n:Nat} {parts:Array (Nat × Value)} {l:List Value} {w:World} (hE:LM P t e i z) (hn:n*i.size<=16777216)
  (hl:rG (fun k=>some (k*i.size,i.size)) ((List.replicate n z.cells.toList).flatten) (parts.toList.map fun p=>(p.1,p.2.cells.toList))=some l) :
  (Instr.buildSlice t n parts).run P w = .ok (.slice (some ⟨w.heap.size,0,none⟩) n n) (dN w l.toArray e):=by
 unfold Instr.buildSlice;rw [az (run_underlying hE.slice w)];simp only;rw [az (run_sizeOf hE.info w)];have h0:¬n*i.size > 2 ^ 24:=by omega
 simp only [h0,if_false];have hflat:∀zc:Array Value,(n≠0->zc=z.cells)->((Array.range (n*i.size)).map (zc[· % zc.size]!)).toList=(List.replicate n z.cells.toList).flatten:=by
  intro zc hzc;by_cases hn0:n=0
  ·subst hn0;simp
  ·rw [hzc hn0,Array.toList_map,Array.toList_range];have hsz:=hE.zsize;have hpos:=hE.pos;apply List.ext_getElem
   ·simp [hsz]
   ·intro k h1 h2;simp only [List.length_map,List.length_range] at h1;rw [List.getElem_map,List.getElem_range];rw [<-hsz] at h1 hpos;have hk:k % z.cells.size<z.cells.size:=Nat.mod_lt _ hpos;have key:∀(n k:Nat),k<n*z.cells.size->((List.replicate n z.cells.toList).flatten)[k]?=some (z.cells[k % z.cells.size]'(Nat.mod_lt _ hpos)):=by
     intro n;induction n with
     | zero=>intro k hk;omega
     | succ n ih=>
      intro k hk;rw [List.replicate_succ,List.flatten_cons,List.getElem?_append];split
      ·rename_i hlt;have hlt':k<z.cells.size:=by simpa using hlt
       simp [Nat.mod_eq_of_lt hlt',hlt']
      ·rename_i hge;have hge':z.cells.size<=k:=by simpa using hge
       rw [Nat.add_mul,Nat.one_mul] at hk;rw [show z.cells.toList.length=z.cells.size from by simp,ih _ (by omega)];congr 1;congr 1;rw [Nat.mod_eq_sub_mod hge']
    have:=key n k h1;rw [aR h2] at this;simp only [aF] at this;rw [this];simp [hk]
 by_cases hn0:n*i.size=0
 ·have hn1:n=0:=by
   have:=hE.pos;rcases Nat.mul_eq_zero.1 hn0 with h|h<;>omega
  have hf:=hflat #[] fun h=>absurd hn1 h
  simp only [hn0,if_true,az (run_pure _ P w)];rw [Ph (l:=l) (by rw [<-hl,<-hf,hn0])];simp only [az (lm e _ w)];rfl
 ·have hf:=hflat z.cells fun _=>rfl
  simp only [hn0,if_false];rw [az (Ac hE.info hE.zero w),az (run_pure _ P w)];rw [Ph (l:=l) (by rw [<-hl,<-hf])];simp only [az (lm e _ w)];rfl
theorem Tp {z:Value} {size:Nat} (hsz:z.cells.size=size) (hpos:0<size) (n:Nat) (zc:Array Value) (hzc:n≠0->zc=z.cells) :
  ((Array.range (n*size)).map (zc[· % zc.size]!)).toList=(List.replicate n z.cells.toList).flatten:=by
 by_cases hn0:n=0
 ·subst hn0;simp
 ·rw [hzc hn0,Array.toList_map,Array.toList_range];apply List.ext_getElem
  ·simp [hsz]
  ·intro k h1 h2;simp only [List.length_map,List.length_range] at h1;rw [List.getElem_map,List.getElem_range];rw [<-hsz] at h1 hpos;have hk:k % z.cells.size<z.cells.size:=Nat.mod_lt _ hpos;have key:∀(n k:Nat),k<n*z.cells.size->((List.replicate n z.cells.toList).flatten)[k]?=some (z.cells[k % z.cells.size]'(Nat.mod_lt _ hpos)):=by
    intro n;induction n with
    | zero=>intro k hk;omega
    | succ n ih=>
     intro k hk;rw [List.replicate_succ,List.flatten_cons,List.getElem?_append];split
     ·rename_i hlt;have hlt':k<z.cells.size:=by simpa using hlt
      simp [Nat.mod_eq_of_lt hlt',hlt']
     ·rename_i hge;have hge':z.cells.size<=k:=by simpa using hge
      rw [Nat.add_mul,Nat.one_mul] at hk;rw [show z.cells.toList.length=z.cells.size from by simp,ih _ (by omega)];congr 1;congr 1;rw [Nat.mod_eq_sub_mod hge']
   have:=key n k h1;rw [aR h2] at this;simp only [aF] at this;rw [this];simp [hk]
theorem run_makeSlice {P:Program} {t e:TypeId} {i:TypeInfo} {z:Value} {n:Nat} {k:IntKind} {w:World} (hE:LM P t e i z) (hn:n<=4294967296) :
  (Instr.makeSlice t (.int k (n:Int)) (.int k (n:Int))).run P w =
   .ok (.slice (some ⟨w.heap.size,0,none⟩) n n) (dN w ((List.replicate n z.cells.toList).flatten).toArray e):=by
 unfold Instr.makeSlice;rw [az (run_underlying hE.slice w)];simp only;have hint:(asInt (.int k (n:Int))).run P w = .ok (n:Int) w:=rfl;rw [az hint,az hint,az (run_typeInfo hE.info w)];have hwr:IntKind.i64.wrap (n:Int)=n:=IntWalk.i64_in _ (by omega);have hb:=hE.bytes;have hmul:i.bytes*n<=4096*4294967296:=Nat.mul_le_mul hb hn;have hbig:¬((i.bytes:Int)*(n:Int) > 2 ^ 48):=by
  rw [<-Int.natCast_mul];generalize i.bytes*n=q at hmul;omega
 have hneg:¬((n:Int)<0):=by omega
 simp only [hwr];rw [if_neg (by
  simp only [Bool.or_eq_true,decide_eq_true_eq,not_or]
  exact ⟨⟨⟨hneg,hbig⟩,hneg⟩,by omega⟩)]
 have hask:(askRoom ((n:Int).toNat*i.bytes)).run P w = .ok () w:=by
  unfold askRoom;split<;>rfl
 rw [az hask,az (run_sizeOf hE.info w)];simp only [dC];by_cases hn0:n*i.size=0
 ·have hn1:n=0:=by
   have:=hE.pos;rcases Nat.mul_eq_zero.1 hn0 with h|h<;>omega
  have hf:=Tp hE.zsize hE.pos n #[] fun h=>absurd hn1 h
  simp only [hn0,if_true,az (run_pure _ P w)];rw [az (lm e _ w),<-hf,hn0];subst hn1;rfl
 ·have hf:=Tp hE.zsize hE.pos n z.cells fun _=>rfl
  simp only [hn0,if_false];rw [az (Ac hE.info hE.zero w),az (run_pure _ P w),az (lm e _ w),<-hf];rfl
end Go.Fw
namespace Go.Fw
def fF (d:Nat) (p:Pl):Option Pl:=if p.1=d then none else some p
section
variable {ac:Nat->Nat->Value} {κ0 κ:aH} {w0 w w':World} {N:Nat} {tg:Nat->TT} {sv:Nat->AV} {tm:Nat->Value}
def iA (tg:Nat->TT) (d:Nat) (tag:TT):Nat->TT:=upd (fun t=>(tg t).kill [d] []) d tag
theorem jR (h:R ac κ0 w0 κ w N tg sv tm) {d:Nat} (hd:d<N) {tag:TT} {av:AV} {x:Value} {nb:Option (Nat × Pl)} (hw:Grows w w')
  (hnb:∀b p,nb=some (b,p)->w.heap.size<=b/\b<w'.heap.size)
  (ht:TR ac (aU κ (fF d) nb) w' (iA tg d tag) (upd sv d av) (upd tm d x) d tag) :
  R ac κ0 w0 (aU κ (fF d) nb) w' N (iA tg d tag) (upd sv d av) (upd tm d x):=by
 refine Wp (mods:=[d]) (M:=[]) h (by have:=h.nle;simp;omega) hw (fun r q hr => ?_) (fun r q p hp _ => ?_) hnb (fun r hr => ?_) (fun r hr => ?_) (fun r hr => ?_) (fun t ht' => ?_) (fun t htN => ?_)
 ·simp at hr;simp [fF,hr]
 ·unfold fF at hp;split at hp
  ·cases hp
  ·cases hp;rfl
 ·simp at hr;simp [iA,upd,hr]
 ·simp at hr;simp [upd,hr]
 ·simp at hr;simp [upd,hr]
 ·simp at ht';subst ht';simpa [iA,upd] using ht
 ·have hne:t≠d:=by omega
  simp [iA,upd,hne,h.out t htN,TT.kill]
theorem GL (cs:List CT):cs.map (nO [])=cs:=by
 have:nO []=id:=by funext c;exact XT c
 rw [this];simp
theorem anT {κ':aH} {tg':Nat->TT} {d:Nat} {y:Value} (hy:sc y=true) :
  TR ac κ' w' tg' (upd sv d (.v [.v y] [])) (upd tm d y) d (.val false [.d]):=by
 simp only [TR,bC];refine ⟨_,[y],rfl,?_,rfl,?_,?_⟩
 ·cases y<;>simp [sc] at hy<;>rfl
 ·intro k j c e hk;cases k<;>simp at hk
 ·simp only [ax,RC];exact ⟨⟨rfl,hy⟩,trivial⟩
end
end Go.Fw
namespace Go.Fw
mutual
def CT.nown:CT->Bool
 | .d=>true
 | .sl (.own _) _=>false
 | .sl _ e=>CT.nowns e
def CT.nowns:List CT->Bool
 | []=>true
 | c::cs=>c.nown&&CT.nowns cs
end
mutual
def CT.srcs:CT->List Nat
 | .d=>[]
 | .sl (.ro S) e=>S++CT.srcss e
 | .sl _ e=>CT.srcss e
def CT.srcss:List CT->List Nat
 | []=>[]
 | c::cs=>c.srcs++CT.srcss cs
end
mutual
theorem aiH {S:List Nat}:∀{c:CT},(∀r,r∈c.srcs->r∈S)->c.allS (fun S0=>∀r,r∈S0->r∈S)
 | .d,_=>by simp [CT.allS]
 | .sl (.ro S0) e,h=>by
  simp only [CT.srcs,List.mem_append] at h;simp only [CT.allS];exact ⟨fun r hr=>h r (.inl hr),iC fun r hr=>h r (.inr hr)⟩
 | .sl (.own _) e,h=>by simp only [CT.srcs] at h;simp only [CT.allS];exact iC h
 | .sl .dead e,h=>by simp only [CT.srcs] at h;simp only [CT.allS];exact iC h
theorem iC {S:List Nat}:∀{cs:List CT},(∀r,r∈CT.srcss cs->r∈S)->CT.allSs (fun S0=>∀r,r∈S0->r∈S) cs
 | [],_=>by simp [CT.allSs]
 | c::cs,h=>by
  simp only [CT.srcss,List.mem_append] at h;simp only [CT.allSs];exact ⟨aiH fun r hr=>h r (.inl hr),iC fun r hr=>h r (.inr hr)⟩
end
mutual
theorem XX {P:List Nat->Prop} (h:∀S,P S):∀c:CT,c.allS P
 | .d=>by simp [CT.allS]
 | .sl (.ro S0) e=>by simp only [CT.allS];exact ⟨h S0,fJ h e⟩
 | .sl (.own _) e=>by simp only [CT.allS];exact fJ h e
 | .sl .dead e=>by simp only [CT.allS];exact fJ h e
theorem fJ {P:List Nat->Prop} (h:∀S,P S):∀cs:List CT,CT.allSs P cs
 | []=>by simp [CT.allSs]
 | c::cs=>by simp only [CT.allSs];exact ⟨XX h c,fJ h cs⟩
end
mutual
theorem af8 (S:List Nat):∀c:CT,(c.roize S).nown=true
 | .d=>by simp [CT.roize,CT.nown]
 | .sl _ e=>by simp [CT.roize,CT.nown,kz S e]
theorem kz (S:List Nat):∀cs:List CT,CT.nowns (CT.roizes S cs)=true
 | []=>by simp [CT.roizes,CT.nowns]
 | c::cs=>by simp [CT.roizes,CT.nowns,af8 S c,kz S cs]
end
mutual
theorem af9 (S:List Nat):∀c:CT,(c.roize S).live=true
 | .d=>by simp [CT.roize,CT.live]
 | .sl _ e=>by simp [CT.roize,CT.live,rH S e]
theorem rH (S:List Nat):∀cs:List CT,CT.lives (CT.roizes S cs)=true
 | []=>by simp [CT.roizes,CT.lives]
 | c::cs=>by simp [CT.roizes,CT.lives,af9 S c,rH S cs]
end
section copy
variable {κ κ':aH} {w w':World} {P:List Nat->Prop}
mutual
theorem Wt (hro:∀S,P S->∀b,aW κ w S b->aW κ' w' S b/\Same w w' b):∀{c:CT} {p p':Pl} {x:Value} {a:A},c.nown=true->c.allS P->RC κ w c p x a->RC κ' w' c p' x a
 | .d,_,_,_,.v _,_,_,h=>by simp only [RC] at h ⊢;exact h
 | .sl (.ro S) e,p,p',x,.s xs,hn,hs,h=>by
  simp only [RC,CT.allS,CT.nown] at h hs hn ⊢;obtain ⟨ao,cap,hx,hle,hc⟩:=h;refine ⟨ao,cap,hx,hle,?_⟩;rcases hc with h0|⟨b,o,rfl,hb,hr,he⟩
  ·exact .inl h0
  ·obtain ⟨hb',hsame⟩:=hro S hs.1 b hb;refine .inr ⟨b,o,rfl,hb',hsame.rdb hr,?_⟩;refine FH (fun i _ hi => ?_) (Rs hro hn hs.2 he);exact hsame.cD hr (by omega) (by omega)
 | .sl .dead e,_,_,_,a,_,_,_=>by cases a<;>simp [RC]
 | .sl (.own _) _,_,_,_,_,hn,_,_=>by simp [CT.nown] at hn
 | .d,_,_,_,.s _,_,_,h=>by simp [RC] at h
 | .sl (.ro _) _,_,_,_,.v _,_,_,h=>by simp [RC] at h
theorem XY (hro:∀S,P S->∀b,aW κ w S b->aW κ' w' S b/\Same w w' b):∀{cs:List CT} {p p':Pl} {j:Nat} {get:Nat->Value} {as:List A},CT.nowns cs=true->CT.allSs P cs ->
  ax κ w cs p j get as->ax κ' w' cs p' j get as
 | [],_,_,_,_,[],_,_,_=>by simp [ax]
 | c::cs,p,p',j,get,a::as,hn,hs,h=>by
  simp only [CT.allSs,CT.nowns,aG,ax] at h hs hn ⊢;exact ⟨Wt hro hn.1 hs.1 h.1,XY hro hn.2 hs.2 h.2⟩
 | [],_,_,_,_,_::_,_,_,h=>by simp [ax] at h
 | _::_,_,_,_,_,[],_,_,h=>by simp [ax] at h
theorem Rs (hro:∀S,P S->∀b,aW κ w S b->aW κ' w' S b/\Same w w' b):∀{e:List CT} {p p':Pl} {j:Nat} {get:Nat->Value} {xs:List (List A)},CT.nowns e=true->CT.allSs P e ->
  bO κ w e p j get xs->bO κ' w' e p' j get xs
 | _,_,_,_,_,[],_,_,_=>by simp [bO]
 | e,p,p',j,get,x::xs,hn,hs,h=>by
  simp only [bO] at h ⊢;exact ⟨XY hro hn hs h.1,Rs hro hn hs h.2⟩
end
theorem iB (hro:∀S,P S->∀b,aW κ w S b->aW κ' w' S b/\Same w w' b) {cs:List CT} {p p':Pl} {j j':Nat} {get get':Nat->Value} {as:List A} (hn:CT.nowns cs=true) (hs:CT.allSs P cs)
  (hg:∀i,i<cs.length->get' (j'+i)=get (j+i)) (h:ax κ w cs p j get as):ax κ' w' cs p' j' get' as:=by
 induction cs generalizing j j' as with
 | nil=>cases as with
  | nil=>simp [ax]
  | cons=>simp [ax] at h
 | cons c cs ih=>
  cases as with
  | nil=>simp [ax] at h
  | cons a as=>
   simp only [CT.allSs,CT.nowns,aG,ax] at h hs hn ⊢;refine ⟨?_,ih hn.2 hs.2 (fun i hi => ?_) h.2⟩
   ·have:=hg 0 (by simp);simp at this;rw [this];exact Wt hro hn.1 hs.1 h.1
   ·have:=hg (i+1) (by simpa using hi);rw [show j'+1+i=j'+(i+1) from by omega,show j+1+i=j+(i+1) from by omega];exact this
end copy
theorem aqH {κ:aH} {w:World} {c:CT} {p:Pl} {x:Value} {a:A} (hl:c.live=true) (h:RC κ w c p x a):x≠undef:=by
 cases c with
 | d=>
  cases a with
  | v y=>simp only [RC] at h;obtain ⟨rfl,hs⟩:=h;rintro rfl;simp [undef,sc] at hs
  | s xs=>simp [RC] at h
 | sl m e=>
  cases m with
  | dead=>simp [CT.live] at hl
  | own k=>
   cases a with
   | v y=>simp [RC] at h
   | s xs=>simp only [RC] at h;obtain ⟨_,_,rfl,_⟩:=h;simp [undef]
  | ro S=>
   cases a with
   | v y=>simp [RC] at h
   | s xs=>simp only [RC] at h;obtain ⟨_,_,rfl,_⟩:=h;simp [undef]
theorem mX:∀{cs:List CT} {k:Nat} {c:CT},CT.lives cs=true->cs[k]?=some c->c.live=true
 | c::cs,0,c',h,hc=>by simp at hc;subst hc;simp only [CT.lives,aG] at h;exact h.1
 | c::cs,k+1,c',h,hc=>by simp only [CT.lives,aG] at h;exact mX h.2 (by simpa using hc)
 | [],_,_,_,hc=>by simp at hc
theorem aiI {κ:aH} {w:World} {cs:List CT} {p:Pl} {j:Nat} {get:Nat->Value} {as:List A} (hl:CT.lives cs=true) (h:ax κ w cs p j get as) (k:Nat) (hk:k<cs.length):get (j+k)≠undef:=by
 have hlen:=bU h;exact aqH (mX hl (aR hk)) (eH h (aR hk) (aR (by omega)))
theorem jF {κ:aH} {w w':World} {d:Nat} {nb:Option (Nat × Pl)} (hw:Grows w w') (hnb:∀b p,nb=some (b,p)->w.heap.size<=b) (S:List Nat) (b:Nat) (h:aW κ w S b) :
  aW (aU κ (fF d) nb) w' S b/\Same w w' b:=by
 refine ⟨⟨Nat.lt_of_lt_of_le h.1 hw.size,fun r p hr => ?_⟩,hw.same b⟩;have hr':(κ b).bind (fF d)=some (r,p):=by
  unfold aU at hr;cases nb with
  | none=>exact hr
  | some q=>
   obtain ⟨b',p'⟩:=q;have:=hnb b' p' rfl;have:=h.1;simp only at hr;rwa [if_neg (by omega)] at hr
 cases hk:κ b with
 | none=>simp [hk] at hr'
 | some p0=>
  simp only [hk,aa,fF] at hr';split at hr'
  ·cases hr'
  ·cases hr';exact h.2 r p hk
theorem rJ {κ:aH} {w:World} {d r b:Nat} {q:List Nat} (hr:r≠d) (h:κ b=some (r,q)) (_:∀b,w.heap.size<=b->κ b=none):aU κ (fF d) none b=some (r,q):=by
 simp [aU,h,fF,hr]
section ops
variable {ac:Nat->Nat->Value} {κ0 κ:aH} {w0 w w':World} {N:Nat} {tg:Nat->TT} {sv:Nat->AV} {tm:Nat->Value}
theorem LP (h:R ac κ0 w0 κ w N tg sv tm) {d:Nat} (hd:d<N) {y:Value} (hy:sc y=true) (hw:Grows w w') :
  R ac κ0 w0 (aU κ (fF d) none) w' N (iA tg d (.val false [.d])) (upd sv d (.v [.v y] [])) (upd tm d y):=
 jR h hd hw (fun _ _ h=>by cases h) (anT hy)
theorem ao4 (h:R ac κ0 w0 κ w N tg sv tm) {d t:Nat} (hd:d<N) {ag:Bool} {cs:List CT} (ht:tg t = .val ag cs) (hn:CT.nowns cs=true) {as:List A} (hs:sv t = .v as []) :
  R ac κ0 w0 (aU κ (fF d) none) w N (iA tg d (.val ag cs)) (upd sv d (.v as [])) (upd tm d (tm t)):=by
 refine jR h hd (Grows.refl w) (fun _ _ h=>by cases h) ?_;have h1:=h.tr t;rw [ht] at h1;simp only [TR,bC] at h1 ⊢;obtain ⟨as',vs,g1,g2,g3,g4,g5⟩:=h1;rw [hs] at g1;cases g1;exact ⟨as,vs,rfl,g2,g3,g4,iB (P:=fun _=>True) (fun S _ b hb=>jF (Grows.refl w) (fun _ _ h=>by cases h) S b hb) hn (fJ (fun _=>trivial) cs) (fun _ _=>rfl) g5⟩
theorem anU (h:R ac κ0 w0 κ w N tg sv tm) {d t:Nat} (hd:d<N) (hdt:t≠d) {ag:Bool} {cs:List CT} (ht:tg t = .val ag cs) (hl:CT.lives cs=true) {as:List A} (hs:sv t = .v as []) {S:List Nat}
  (hS:t∈S) (hS2:∀r,r∈CT.srcss cs->r∈S) :
  R ac κ0 w0 (aU κ (fF d) none) w N (iA tg d (.alias ag (CT.roizes S cs) t [] 0 S)) (upd sv d (.v as [])) (upd tm d (tm t)):=by
 refine jR h hd (Grows.refl w) (fun _ _ h=>by cases h) ?_;have h1:=h.tr t;rw [ht] at h1;simp only [TR,bC,iA,upd_ne _ _ _ hdt,ht,TT.kill,GL] at h1 ⊢;obtain ⟨as',vs,g1,g2,g3,g4,g5⟩:=h1;rw [hs] at g1;cases g1;have hcl:=fun S b hb=>jF (κ:=κ) (w:=w) (w':=w) (d:=d) (nb:=none) (Grows.refl w) (fun _ _ h=>by cases h) S b hb
 have g6:ax κ w (CT.roizes S cs) (d,[]) 0 (fun k=>vs.getD k undef) as:=Pg hl hS (iC hS2) (fun _ _=>rfl) g5;have g7:ax (aU κ (fF d) none) w (CT.roizes S cs) (d,[]) 0 (fun k=>vs.getD k undef) as:=
  iB (P:=fun _=>True) (fun S _ b hb=>hcl S b hb) (kz S cs) (fJ (fun _=>trivial) _) (fun _ _=>rfl) g6
 have hrg:rg w (.val ag cs) (tm t)=fun k=>vs.getD k undef:=by funext k;simp [rg,g2]
 refine ⟨as,[],vs,_,as,as,rfl,g2,by rw [bQ];exact g3,rH S cs,g7,by rw [hrg];rfl,by simp [PO],fun b hb=>by simp [rb] at hb,fun h=>absurd rfl h,fun k hk=>⟨by simp,?_⟩,hs,rfl,?_⟩
 ·rw [bQ] at hk;have:=aiI hl g5 k hk;simpa using this
 ·have:=bU g5;rw [bQ,List.drop_zero,List.take_of_length_le (by omega)]
theorem aiJ (h:R ac κ0 w0 κ w N tg sv tm) {d t:Nat} (hd:d<N) {ag:Bool} {cs:List CT} {r:Nat} {sk:Sk} {off:Nat} {S:List Nat} (ht:tg t = .alias ag cs r sk off S) (hr:r≠d) (hn:CT.nowns cs=true) :
  R ac κ0 w0 (aU κ (fF d) none) w N (iA tg d (.alias ag cs r sk off S)) (upd sv d (sv t)) (upd tm d (tm t)):=by
 refine jR h hd (Grows.refl w) (fun _ _ h=>by cases h) ?_;have h1:=h.tr t;rw [ht] at h1;have hcl:=fun S b hb=>jF (κ:=κ) (w:=w) (w':=w) (d:=d) (nb:=none) (Grows.refl w) (fun _ _ h=>by cases h) S b hb
 simp only [TR,bC,iA,upd_ne _ _ _ hr,(jP w [d] [] (tg r) (tm r)).2,show rg w ((tg r).kill [d] []) (tm r)=rg w (tg r) (tm r) from (jP w [d] [] (tg r) (tm r)).1] at h1 ⊢;obtain ⟨as,is,vs,g,ra,row,h1,h2,h3,hl,h4,h5,h6,h7,h8,h9,h10,h11,h12⟩:=h1;have h6':PO (aU κ (fF d) none) w S (rg w (tg r) (tm r)) sk is:=by
  cases sk with
  | nil=>simp [PO]
  | cons s sk=>
   simp only [dU,Option.map_eq_some_iff] at h5;obtain ⟨BO,h5,_⟩:=h5;exact (uR (hcl S) (fun k _=>rfl) h6 h5).2
 exact ⟨as,is,vs,g,ra,row,h1,h2,h3,hl,iB (P:=fun _=>True) (fun S _ b hb=>hcl S b hb) hn (fJ (fun _=>trivial) _) (fun _ _=>rfl) h4,h5,h6',fun b hb=>rJ hr (h7 b hb) h.col,h8,h9,h10,h11,h12⟩
theorem anV (h:R ac κ0 w0 κ w N tg sv tm) {d t:Nat} (hd:d<N) {r:Nat} {sk:Sk} {off:Nat} {S:List Nat} (ht:tg t = .ptr r sk off S) (hr:r≠d) :
  R ac κ0 w0 (aU κ (fF d) none) w N (iA tg d (.ptr r sk off S)) (upd sv d (sv t)) (upd tm d (tm t)):=by
 refine jR h hd (Grows.refl w) (fun _ _ h=>by cases h) ?_;have h1:=h.tr t;rw [ht] at h1;have hcl:=fun S b hb=>jF (κ:=κ) (w:=w) (w':=w) (d:=d) (nb:=none) (Grows.refl w) (fun _ _ h=>by cases h) S b hb
 simp only [TR,bC,iA,upd_ne _ _ _ hr,(jP w [d] [] (tg r) (tm r)).2,show rg w ((tg r).kill [d] []) (tm r)=rg w (tg r) (tm r) from (jP w [d] [] (tg r) (tm r)).1] at h1 ⊢;obtain ⟨is,B,O,h1,h2,h3,h4,h5⟩:=h1;exact ⟨is,B,O,h1,h2,(uR (hcl S) (fun k _=>rfl) h3 h2).2,fun b hb=>rJ hr (h4 b hb) h.col,h5⟩
theorem aqI (h:R ac κ0 w0 κ w N tg sv tm) {d t:Nat} (hd:d<N) (hdt:t≠d) {cs:List CT} (ht:tg t = .box cs) :
  R ac κ0 w0 (aU κ (fF d) none) w N (iA tg d (.ptr t [] 0 [t])) (upd sv d (.p [])) (upd tm d (tm t)):=by
 refine jR h hd (Grows.refl w) (fun _ _ h=>by cases h) ?_;have h1:=h.tr t;rw [ht] at h1;have hcl:=fun S b hb=>jF (κ:=κ) (w:=w) (w':=w) (d:=d) (nb:=none) (Grows.refl w) (fun _ _ h=>by cases h) S b hb
 simp only [TR,bC,iA,upd_ne _ _ _ hdt,ht,TT.kill] at h1 ⊢;obtain ⟨as,b,g1,g2,g3,g4,g5,g6,g7⟩:=h1;rw [g2];exact ⟨[],b,0,rfl,by simp [eY,rb,wk],by simp [PO],fun b' hb'=>by simp [rb] at hb';subst hb';exact rJ hdt g4 h.col,rfl⟩
end ops
end Go.Fw
namespace Go.Fw
def oz (srcs:List Nat) (d:Nat) (f:Nat->Nat->Option (List Nat)) (p:Pl):Option Pl:=
 if p.1∈srcs then match p.2 with
  | k::q=>(f p.1 k).map fun P=>(d,P++q)
  | []=>none
 else if p.1=d then none else some p
theorem jS {κ:aH} {w w':World} {F:Pl->Option Pl} {nb:Option (Nat × Pl)} {M S:List Nat} (hw:Grows w w') (hM:∀r q p,F (r,q)=some p->r∉M->p=(r,q))
  (hnb:∀b p,nb=some (b,p)->w.heap.size<=b) (hS:∀m,m∈M->m∉S) (b:Nat) (h:aW κ w S b):aW (aU κ F nb) w' S b/\Same w w' b:=by
 refine ⟨⟨Nat.lt_of_lt_of_le h.1 hw.size,fun r p hr => ?_⟩,hw.same b⟩;have hr':(κ b).bind F=some (r,p):=by
  unfold aU at hr;cases nb with
  | none=>exact hr
  | some q=>
   obtain ⟨b',p'⟩:=q;have:=hnb b' p' rfl;have:=h.1;simp only at hr;rwa [if_neg (by omega)] at hr
 cases hk:κ b with
 | none=>simp [hk] at hr'
 | some p0=>
  obtain ⟨r0,q0⟩:=p0;simp only [hk,aa] at hr';by_cases hm:r0∈M
  ·exact absurd (h.2 r0 q0 hk).1 (hS r0 hm)
  ·have:=hM r0 q0 _ hr' hm;cases this;exact h.2 _ _ hk
theorem mY {κ:aH} {w:World} {F:Pl->Option Pl} {nb:Option (Nat × Pl)} (hnb:∀b p,nb=some (b,p)->w.heap.size<=b) (hc:∀b,w.heap.size<=b->κ b=none) {b:Nat} {p:Pl} (h:κ b=some p) :
  aU κ F nb b=F p:=by
 have hb:b<w.heap.size:=by
  apply Nat.lt_of_not_le;intro hle;rw [hc b hle] at h;cases h
 unfold aU;cases nb with
 | none=>simp [h]
 | some q=>
  obtain ⟨b',p'⟩:=q;have:=hnb b' p' rfl;simp only;rw [if_neg (by omega),h];rfl
theorem af_ {srcs:List Nat} {d:Nat} {f:Nat->Nat->Option (List Nat)}:∀r q p,oz srcs d f (r,q)=some p->r∉srcs->p=(r,q):=by
 intro r q p h hr;unfold oz at h;simp only [hr,if_false] at h;split at h
 ·cases h
 ·cases h;rfl
structure Part (κ:aH) (w:World) (srcs:List Nat) (t:Nat) (cs:List CT) (vs:List Value) (as:List A):Prop where
 row:ax κ w cs (t,[]) 0 (fun k=>vs.getD k undef) as
 len:vs.length=cs.length
 own:t∈srcs\/CT.nowns cs=true
 men:CT.mens srcs cs=false
section
variable {ac:Nat->Nat->Value} {κ0 κ:aH} {w0 w w':World} {N:Nat} {tg:Nat->TT} {sv:Nat->AV} {tm:Nat->Value}
theorem rM {srcs:List Nat} {d t:Nat} {f:Nat->Nat->Option (List Nat)} {nb:Option (Nat × Pl)} {Q:List Nat} {off:Nat} {cs:List CT} {vs:List Value} {as:List A} {get:Nat->Value}
  (hw:Grows w w') (hnb:∀b p,nb=some (b,p)->w.heap.size<=b) (hc:∀b,w.heap.size<=b->κ b=none) (hp:Part κ w srcs t cs vs as)
  (hf:∀k,k<cs.length->t∈srcs->f t k=some (Q++[off+k])) (hg:∀i,i<cs.length->get (off+i)=vs.getD i undef) :
  ax (aU κ (oz srcs d f) nb) w' cs (d,Q) off get as:=by
 have hro:∀S,(∀m,m∈srcs->m∉S)->∀b,aW κ w S b->aW (aU κ (oz srcs d f) nb) w' S b/\Same w w' b:=
  fun S hS b hb=>jS hw af_ hnb hS b hb
 have hs:CT.allSs (fun S=>∀m,m∈srcs->m∉S) cs:=dA (fun S hS=>hS) hp.men;by_cases ht:t∈srcs
 ·have:=dQ (f:=id) (κ':=aU κ (oz srcs d f) nb) (w':=w') (p':=(d,Q)) (get':=get) (j':=off) hro hs (fun i hi b q hb=>⟨?_,hw.same b⟩) (fun i hi=>by simpa using hg i hi) hp.row
  ·rwa [fE] at this
  ·rw [mY hnb hc hb];simp only [oz,ht,if_true,List.nil_append,Nat.zero_add];rw [hf i hi ht];simp
 ·have hn:CT.nowns cs=true:=hp.own.resolve_left ht;exact iB hro hn hs (fun i hi=>by simpa using hg i hi) hp.row
theorem z8 (h:R ac κ0 w0 κ w N tg sv tm) {d:Nat} (hd:d<N) {srcs:List Nat} (hsf:FB∉srcs) {f:Nat->Nat->Option (List Nat)} {tag:TT} {av:AV} {x:Value} {nb:Option (Nat × Pl)} (hw:Grows w w')
  (hnb:∀b p,nb=some (b,p)->w.heap.size<=b/\b<w'.heap.size) {tg':Nat->TT} (htg:tg'=upd (fun t=>if t∈srcs then .dead else (tg t).kill (d::srcs) srcs) d tag)
  (ht:TR ac (aU κ (oz srcs d f) nb) w' tg' (upd sv d av) (upd tm d x) d tag) :
  R ac κ0 w0 (aU κ (oz srcs d f) nb) w' N tg' (upd sv d av) (upd tm d x):=by
 subst htg;refine Wp (mods:=d::srcs) (M:=srcs) h (by have:=h.nle;simp only [List.mem_cons,not_or];exact ⟨by omega,hsf⟩) hw (fun r q hr => ?_) af_ hnb (fun r hr => ?_) (fun r hr => ?_) (fun r hr => ?_) (fun t ht' => ?_) (fun t htN => ?_)
 ·simp at hr;simp [oz,hr]
 ·simp at hr;simp [upd,hr]
 ·simp at hr;simp [upd,hr]
 ·simp at hr;simp [upd,hr]
 ·by_cases htd:t=d
  ·subst htd;simpa [upd] using ht
  ·simp [htd] at ht';simp [upd,htd,ht',TR]
 ·have hne:t≠d:=by omega
  simp only [upd,hne,if_false];split
  ·rfl
  ·simp [h.out t htN,TT.kill]
theorem ao5 (h:R ac κ0 w0 κ w N tg sv tm) {d t:Nat} (hd:d<N) (htN:t<N) {ag:Bool} {cs:List CT} (ht:tg t = .val ag cs) (hm:CT.mens [t] cs=false) {as:List A} (hs:sv t = .v as []) :
  R ac κ0 w0 (aU κ (oz [t] d fun _ k=>some [k]) none) w N (upd (fun u=>if u∈[t] then .dead else (tg u).kill [d,t] [t]) d (.val ag cs)) (upd sv d (.v as [])) (upd tm d (tm t)):=by
 refine z8 h hd (by have:=h.nle;simp;omega) (Grows.refl w) (fun _ _ h=>by cases h) rfl ?_;have h1:=h.tr t;rw [ht] at h1;simp only [TR,bC] at h1 ⊢;obtain ⟨as',vs,g1,g2,g3,g4,g5⟩:=h1;rw [hs] at g1;cases g1;exact ⟨as,vs,rfl,g2,g3,g4,rM (Grows.refl w) (fun _ _ h=>by cases h) h.col ⟨g5,g3,.inl (by simp),hm⟩ (fun k _ _=>by simp) (fun i _=>by simp)⟩
theorem anW (h:R ac κ0 w0 κ w N tg sv tm) {d t:Nat} (hd:d<N) (htN:t<N) {ws:List (Bool × Nat)} {cs:List CT} (ht:tg t = .tup ws cs) (hm:CT.mens [t] cs=false) {as:List A} (hs:sv t = .v as []) :
  R ac κ0 w0 (aU κ (oz [t] d fun _ k=>some [k]) none) w N (upd (fun u=>if u∈[t] then .dead else (tg u).kill [d,t] [t]) d (.tup ws cs)) (upd sv d (.v as [])) (upd tm d (tm t)):=by
 refine z8 h hd (by have:=h.nle;simp;omega) (Grows.refl w) (fun _ _ h=>by cases h) rfl ?_;have h1:=h.tr t;rw [ht] at h1;simp only [TR,bC] at h1 ⊢;obtain ⟨as',xs,vs,g1,g2,g3,g4,g5⟩:=h1;rw [hs] at g1;cases g1;exact ⟨as,xs,vs,rfl,g2,g3,g4,rM (Grows.refl w) (fun _ _ h=>by cases h) h.col ⟨g5,g4,.inl (by simp),hm⟩ (fun k _ _=>by simp) (fun i _=>by simp)⟩
theorem aqJ (h:R ac κ0 w0 κ w N tg sv tm) {d t:Nat} (hd:d<N) {srcs:List Nat} (hsf:FB∉srcs) {cs:List CT} {vs:List Value} {as:List A} (hp:Part κ w srcs t cs vs as) (hpin:mV ac cs fun k=>vs.getD k undef)
  {cells:Array Value} (hcells:cells.toList=vs) (ty:TypeId) :
  R ac κ0 w0 (aU κ (oz srcs d fun _ k=>some [k]) (some (w.heap.size,(d,[])))) (dN w cells ty) N (upd (fun u=>if u∈srcs then .dead else (tg u).kill (d::srcs) srcs) d (.box cs))
   (upd sv d (.v as [])) (upd tm d (.pointer (some ⟨w.heap.size,0,none⟩))):=by
 have hsz:cells.size=cs.length:=by rw [<-hp.len,<-hcells];simp
 refine z8 h hd hsf (oK w cells ty) (fun b p h=>by cases h;simp [dN]) rfl ?_;simp only [TR,bC];have hcd:∀i,cellD (dN w cells ty) w.heap.size i=vs.getD i undef:=fun i=>by rw [DY,hcells]
 refine ⟨as,w.heap.size,rfl,rfl,by simp [dN],by simp [aU],LJ w cells ty 0 _ (by omega),?_,?_⟩
 ·intro k j c e hk;rw [hcd];exact hpin k j c e hk
 ·exact rM (oK w cells ty) (fun b p h=>by cases h;exact Nat.le_refl _) h.col hp (fun k _ _=>by simp) (fun i _=>by rw [Nat.zero_add];exact hcd i)
end
end Go.Fw
namespace Go.Fw
theorem Tq {κ:aH} {w:World} {p:Pl} {C cs:List CT} {V vs:List Value} {As as:List A} {off:Nat} (h:ax κ w C p 0 (fun k=>V.getD k undef) As) (hV:V.length=C.length)
  (h':ax κ w cs p off (fun k=>vs.getD (k-off) undef) as) (hl:vs.length=cs.length) (ho:off+cs.length<=C.length) :
  ax κ w (splice C off cs) p 0 (fun k=>(splice V off vs).getD k undef) (splice As off as):=by
 have hA:=bU h;have ha:=bU h';unfold splice;have h1:=jE off h;have h3:=jD (off+cs.length) h;refine zh (jA (fun i _ hi => ?_) h1) (zh (jA (get:=fun k=>vs.getD (k-off) undef) (fun i h2 hi => ?_) ?_) (jA (get:=fun k=>V.getD k undef) (fun i h2 hi => ?_) ?_))
 ·simp at hi;simp only [bN];rw [List.getElem?_append_left (by simp;omega),List.getElem?_take_of_lt (by omega)]
 ·simp at h2 hi;simp only [bN];rw [List.getElem?_append_right (by simp;omega),List.getElem?_append_left (by simp;omega)];congr 2;simp;omega
 ·rw [show 0+(List.take off C).length=off from by simp;omega];exact h'
 ·simp at h2 hi;simp only [bN];rw [List.getElem?_append_right (by simp;omega),List.getElem?_append_right (by simp;omega),List.getElem?_drop];congr 2;simp;omega
 ·rw [show 0+(List.take off C).length+cs.length=0+(off+cs.length) from by simp;omega,ha];exact h3
def ZR:List CT->List Value->List A->Prop
 | [],[],[]=>True
 | .d::cs,x::vs,.v y::as=>x=y/\sc y=true/\ZR cs vs as
 | .sl _ _::cs,x::vs,.s []::as=>x = .slice none 0 0/\ZR cs vs as
 | _,_,_=>False
theorem FK {κ:aH} {w:World} {p:Pl}:∀{cs:List CT} {vs:List Value} {as:List A} {j:Nat} {get:Nat->Value},ZR cs vs as->(∀i,i<cs.length->get (j+i)=vs.getD i undef)->ax κ w cs p j get as
 | [],[],[],_,_,_,_=>by simp [ax]
 | .d::cs,x::vs,.v y::as,j,get,h,hg=>by
  simp only [ZR] at h;simp only [ax,RC];refine ⟨⟨?_,h.2.1⟩,FK h.2.2 fun i hi => ?_⟩
  ·have:=hg 0 (by simp);simp at this;rw [this];exact h.1
  ·have:=hg (i+1) (by simpa using hi);rw [show j+1+i=j+(i+1) from by omega];simpa using this
 | .sl m e::cs,x::vs,.s []::as,j,get,h,hg=>by
  simp only [ZR] at h;simp only [ax];refine ⟨?_,FK h.2 fun i hi => ?_⟩
  ·have:=hg 0 (by simp);simp at this;rw [this,h.1];cases m with
   | dead=>simp [RC]
   | own k=>simp only [RC];exact ⟨none,0,by simp,by simp,.inl ⟨rfl,rfl⟩⟩
   | ro S=>simp only [RC];exact ⟨none,0,by simp,by simp,.inl trivial⟩
  ·have:=hg (i+1) (by simpa using hi);rw [show j+1+i=j+(i+1) from by omega];simpa using this
 | [],[],_::_,_,_,h,_=>by simp [ZR] at h
 | [],_::_,_,_,_,h,_=>by simp [ZR] at h
 | .d::_,[],_,_,_,h,_=>by simp [ZR] at h
 | .d::_,_::_,[],_,_,h,_=>by simp [ZR] at h
 | .d::_,_::_,.s _::_,_,_,h,_=>by simp [ZR] at h
 | .sl _ _::_,[],_,_,_,h,_=>by simp [ZR] at h
 | .sl _ _::_,_::_,[],_,_,h,_=>by simp [ZR] at h
 | .sl _ _::_,_::_,.v _::_,_,_,h,_=>by simp [ZR] at h
 | .sl _ _::_,_::_,.s (_::_)::_,_,_,h,_=>by simp [ZR] at h
theorem Ad:∀{cs:List CT} {vs:List Value} {as:List A},ZR cs vs as->vs.length=cs.length
 | [],[],[],_=>rfl
 | .d::cs,x::vs,.v y::as,h=>by simp only [ZR] at h;simp [Ad h.2.2]
 | .sl m e::cs,x::vs,.s []::as,h=>by simp only [ZR] at h;simp [Ad h.2]
 | [],[],_::_,h=>by simp [ZR] at h
 | [],_::_,_,h=>by simp [ZR] at h
 | .d::_,[],_,h=>by simp [ZR] at h
 | .d::_,_::_,[],h=>by simp [ZR] at h
 | .d::_,_::_,.s _::_,h=>by simp [ZR] at h
 | .sl _ _::_,[],_,h=>by simp [ZR] at h
 | .sl _ _::_,_::_,[],h=>by simp [ZR] at h
 | .sl _ _::_,_::_,.v _::_,h=>by simp [ZR] at h
 | .sl _ _::_,_::_,.s (_::_)::_,h=>by simp [ZR] at h
def fe (cs:List CT):Bool:=cs.all fun c=>match c with
 | .sl (.own (some _)) _=>false
 | _=>true
theorem dV {ac:Nat->Nat->Value} {cs:List CT} {get:Nat->Value} (h:fe cs=true):mV ac cs get:=by
 intro k j c e hk;have:=List.all_eq_true.1 h _ (List.mem_of_getElem? hk);simp at this
structure Pt where
 off:Nat
 t:Nat
 cs:List CT
 vs:List Value
 as:List A
def gq {α:Type} (sel:Pt->List α):List α->List Pt->List α
 | l,[]=>l
 | l,p::ps=>gq sel (splice l p.off (sel p)) ps
def aga (n:Nat) (ps:List Pt):Prop:=∀p,p∈ps->p.off+p.cs.length<=n
theorem XZ {κ:aH} {w:World} {pl:Pl}:∀{ps:List Pt} {C:List CT} {V:List Value} {As:List A},ax κ w C pl 0 (fun k=>V.getD k undef) As->V.length=C.length->aga C.length ps ->
  (∀p,p∈ps->ax κ w p.cs pl p.off (fun k=>p.vs.getD (k-p.off) undef) p.as/\p.vs.length=p.cs.length) ->
  ax κ w (gq Pt.cs C ps) pl 0 (fun k=>(gq Pt.vs V ps).getD k undef) (gq Pt.as As ps)/\(gq Pt.vs V ps).length=(gq Pt.cs C ps).length
 | [],C,V,As,h,hV,_,_=>⟨h,hV⟩
 | p::ps,C,V,As,h,hV,hf,hp=>by
  obtain ⟨h1,h2⟩:=hp p (by simp);have h3:=hf p (by simp);simp only [gq];have hC:(splice C p.off p.cs).length=C.length:=iR h3;refine XZ (Tq h hV h1 h2 h3) ?_ (fun q hq=>by rw [hC];exact hf q (by simp [hq])) fun q hq=>hp q (by simp [hq])
  rw [hC,iR (by omega),hV]
section
variable {ac:Nat->Nat->Value} {κ0 κ:aH} {w0 w w':World} {N:Nat} {tg:Nat->TT} {sv:Nat->AV} {tm:Nat->Value}
def ptF (Q:Nat->Nat->List Nat) (ps:List Pt) (t k:Nat):Option (List Nat):=(ps.find? fun p=>p.t == t).map fun p=>Q p.off k
def amw (srcs:List Nat) (ps:List Pt):Prop:=∀p,p∈ps->p.t∈srcs->ps.find? (fun q=>q.t == p.t)=some p
theorem anX (h:R ac κ0 w0 κ w N tg sv tm) {d:Nat} (hd:d<N) {srcs:List Nat} (hsf:FB∉srcs) {Z:List CT} {ZV:List Value} {ZA:List A} (hz:ZR Z ZV ZA) {ps:List Pt}
  (hp:∀p,p∈ps->Part κ w srcs p.t p.cs p.vs p.as) (ho:amw srcs ps) (hf:aga Z.length ps) (hpin:fe (gq Pt.cs Z ps)=true) :
  R ac κ0 w0 (aU κ (oz srcs d (ptF (fun o k=>[o+k]) ps)) none) w N (upd (fun u=>if u∈srcs then .dead else (tg u).kill (d::srcs) srcs) d (.val true (gq Pt.cs Z ps)))
   (upd sv d (.v (gq Pt.as ZA ps) [])) (upd tm d (.agg (gq Pt.vs ZV ps).toArray)):=by
 refine z8 h hd hsf (Grows.refl w) (fun b p h=>by cases h) rfl ?_;simp only [TR,bC];have hrow:=XZ (κ:=aU κ (oz srcs d (ptF (fun o k=>[o+k]) ps)) none) (w:=w) (pl:=(d,[])) (ps:=ps) (C:=Z) (V:=ZV) (As:=ZA) (FK hz fun i _=>by simp) (Ad hz) hf (fun p hpp=>
  ⟨rM (Grows.refl w) (fun _ _ h=>by cases h) h.col (hp p hpp) (fun k hk ht=>by simp [ptF,ho p hpp ht]) (fun i _=>by simp),(hp p hpp).len⟩)
 exact ⟨_,_,rfl,rfl,hrow.2,dV hpin,hrow.1⟩
theorem aam (h:R ac κ0 w0 κ w N tg sv tm) {d:Nat} (hd:d<N) {srcs:List Nat} (hsf:FB∉srcs) {f:Nat->Nat->Option (List Nat)} {e:List CT} {xs:List (List A)} {cells:Array Value} {ty:TypeId} {cap:Nat}
  (hcap:xs.length<=cap) (hsz:cap*e.length<=cells.size)
  (hrow:∀(κ':aH) (w':World),κ'=aU κ (oz srcs d f) (some (w.heap.size,(d,[0])))->w'=dN w cells ty->bO κ' w' e (d,[0]) 0 (fun k=>cells.toList.getD k undef) xs) :
  R ac κ0 w0 (aU κ (oz srcs d f) (some (w.heap.size,(d,[0])))) (dN w cells ty) N (upd (fun u=>if u∈srcs then .dead else (tg u).kill (d::srcs) srcs) d (.val false [.sl (.own none) e]))
   (upd sv d (.v [.s xs] [])) (upd tm d (.slice (some ⟨w.heap.size,0,none⟩) xs.length cap)):=by
 refine z8 h hd hsf (oK w cells ty) (fun b p h=>by cases h;simp [dN]) rfl ?_;simp only [TR,bC];refine ⟨_,[.slice (some ⟨w.heap.size,0,none⟩) xs.length cap],rfl,rfl,rfl,?_,?_⟩
 ·intro k j c e hk;cases k<;>simp at hk
 ·simp only [ax,RC];refine ⟨⟨_,cap,by simp,hcap,.inr ⟨w.heap.size,0,rfl,by simp [dN],by simp [aU,Pl.at],LJ w cells ty 0 _ (by omega),?_⟩⟩,trivial⟩;have:=hrow _ _ rfl rfl;simp only [Nat.zero_add,DY];simpa [Pl.at] using this
end
end Go.Fw
namespace Go.Fw
structure FL (κ:aH) (w:World) (tg:Nat->TT) (tm:Nat->Value) (r:Nat) (sk:Sk) (is S:List Nat) (B O:Nat):Prop where
 addr:eY w (rg w (tg r) (tm r)) (rb (tg r) (tm r)) sk is=some (B,O)
 po:PO κ w S (rg w (tg r) (tm r)) sk is
 root:∀b,rb (tg r) (tm r)=some b->κ b=some (r,[])
def TT.cts:TT->Option (List CT)
 | .val _ cs=>some cs
 | .box cs=>some cs
 | _=>none
section
variable {ac:Nat->Nat->Value} {κ0 κ:aH} {w0 w w':World} {N:Nat} {tg:Nat->TT} {sv:Nat->AV} {tm:Nat->Value}
theorem R.pla_ptr (h:R ac κ0 w0 κ w N tg sv tm) {t r:Nat} {sk:Sk} {off:Nat} {S is:List Nat} (ht:tg t = .ptr r sk off S) (hs:sv t = .p is) :
  ∃B O,FL κ w tg tm r sk is S B O/\tm t = .pointer (some ⟨B,O+off,none⟩):=by
 have h1:=h.tr t;rw [ht] at h1;simp only [TR] at h1;obtain ⟨is',B,O,g1,g2,g3,g4,g5⟩:=h1;rw [hs] at g1;cases g1;exact ⟨B,O,⟨g2,g3,g4⟩,g5⟩
theorem R.pla_box (h:R ac κ0 w0 κ w N tg sv tm) {t:Nat} {cs:List CT} (ht:tg t = .box cs) :
  ∃B,FL κ w tg tm t [] [] [t] B 0/\tm t = .pointer (some ⟨B,0+0,none⟩):=by
 have h1:=h.tr t;rw [ht] at h1;simp only [TR] at h1;obtain ⟨as,b,g1,g2,g3,g4,g5,g6,g7⟩:=h1;refine ⟨b,⟨by simp [eY,wk,rb,ht,g2],by simp [PO],fun b' hb' => ?_⟩,g2⟩;simp [rb,ht,g2] at hb';subst hb';exact g4
theorem R.root (h:R ac κ0 w0 κ w N tg sv tm) {r:Nat} {cs:List CT} (ht:(tg r).cts=some cs) {ra:List A} (hs:sv r = .v ra []) :
  ax κ w cs (r,[]) 0 (rg w (tg r) (tm r)) ra:=by
 have h1:=h.tr r;cases hT:tg r with
 | val ag cs'=>
  rw [hT] at h1 ht;simp only [TT.cts,aF] at ht;subst ht;simp only [TR] at h1;obtain ⟨as,vs,g1,g2,g3,g4,g5⟩:=h1;rw [hs] at g1;cases g1;have:rg w (.val ag cs') (tm r)=fun k=>vs.getD k undef:=by funext k;simp [rg,g2]
  rw [this];exact g5
 | box cs'=>
  rw [hT] at h1 ht;simp only [TT.cts,aF] at ht;subst ht;simp only [TR] at h1;obtain ⟨as,b,g1,g2,g3,g4,g5,g6,g7⟩:=h1;rw [hs] at g1;cases g1;have:rg w (.box cs') (tm r)=cellD w b:=by funext k;simp [rg,g2]
  rw [this];exact g7
 | dead=>rw [hT] at ht;simp [TT.cts] at ht
 | alias=>rw [hT] at ht;simp [TT.cts] at ht
 | ptr=>rw [hT] at ht;simp [TT.cts] at ht
 | tup=>rw [hT] at ht;simp [TT.cts] at ht
theorem R.row (h:R ac κ0 w0 κ w N tg sv tm) {r:Nat} {cs e:List CT} {sk:Sk} {is S:List Nat} {B O:Nat} (ht:(tg r).cts=some cs) {ra row:List A} (hs:sv r = .v ra [])
  (hp:FL κ w tg tm r sk is S B O) (he:eU false cs sk=some e) (hl:bG ra sk is=some row) :
  ∃o p j,O=o+j/\Rdb w B O (O+e.length)/\ax κ w e (r,p) j (fun k=>cellD w B (o+k)) row:=by
 have h0:=h.root ht hs;cases sk with
 | nil=>
  cases is with
  | cons=>simp [bG] at hl
  | nil=>
   simp only [bG,aF,eU] at hl he;subst hl;subst he;have ha:=hp.addr;simp only [eY,wk,Option.map_eq_some_iff] at ha;obtain ⟨b,hb,hbo⟩:=ha;simp only [Prod.mk.injEq] at hbo;obtain ⟨rfl,rfl⟩:=hbo;cases hT:tg r with
   | box cs'=>
    have h1:=h.tr r;rw [hT] at h1 ht;simp only [TT.cts,aF] at ht;subst ht;simp only [TR] at h1;obtain ⟨as,b',g1,g2,g3,g4,g5,g6,g7⟩:=h1;rw [hs] at g1;cases g1;simp [rb,hT,g2] at hb;subst hb;refine ⟨0,[],0,rfl,by simpa using g5.rdb,?_⟩;simpa using g7
   | _=>rw [hT] at hb;simp [rb] at hb
 | cons s sk=>
  obtain ⟨b,o,g1,g2,g3⟩:=aiE (bo:=(rb (tg r) (tm r)).map fun b=>(b,0)) (by simp) h0 he hl;have ha:=hp.addr;simp only [eY] at ha;simp only [Nat.zero_add] at g1;rw [ha] at g1;simp only [aF,Prod.mk.injEq] at g1;obtain ⟨rfl,rfl⟩:=g1;exact ⟨o,_,_,rfl,g2,g3⟩
theorem nP {n:Nat} {f:Nat->Value} {k:Nat} (hk:k<n):((List.range n).map f).getD k undef=f k:=by
 simp [hk]
theorem LQ {g:Bool} {v:Value} {n:Nat} {f:Nat->Value} (h1:g=true->v = .agg ((List.range n).map f).toArray) (h0:g=false->v=f 0/\n=1) (hs:g=false->∀vs,f 0≠.agg vs/\f 0≠.tuple vs) :
  cellsOf g v=some ((List.range n).map f):=by
 cases g with
 | true=>rw [h1 rfl];simp [cellsOf]
 | false=>
  obtain ⟨rfl,rfl⟩:=h0 rfl;have:=hs rfl;cases hf:f 0 with
  | agg vs=>exact absurd hf (this vs).1
  | tuple vs=>exact absurd hf (this vs).2
  | _=>simp [cellsOf,hf]
theorem FM {κ:aH} {w:World} {c:CT} {p:Pl} {x:Value} {a:A} (hl:c.live=true) (h:RC κ w c p x a):mW x=true:=by
 cases c with
 | d=>
  cases a with
  | v y=>simp only [RC] at h;obtain ⟨rfl,hs⟩:=h;cases x<;>simp_all [sc,mW]
  | s xs=>simp [RC] at h
 | sl m e=>
  cases m with
  | dead=>simp [CT.live] at hl
  | own k=>
   cases a with
   | v y=>simp [RC] at h
   | s xs=>simp only [RC] at h;obtain ⟨_,_,rfl,_⟩:=h;simp [mW]
  | ro S=>
   cases a with
   | v y=>simp [RC] at h
   | s xs=>simp only [RC] at h;obtain ⟨_,_,rfl,_⟩:=h;simp [mW]
theorem Pi {x:Value} (h:mW x=true):∀vs,x≠.agg vs/\x≠.tuple vs:=by
 intro vs;constructor<;>(rintro rfl;simp [mW] at h)
theorem ao7 (h:R ac κ0 w0 κ w N tg sv tm) {d r:Nat} (hd:d<N) {cs e:List CT} {sk:Sk} {is S:List Nat} {B O off n:Nat} (ht:(tg r).cts=some cs) {ra row:List A} (hs:sv r = .v ra [])
  (hp:FL κ w tg tm r sk is S B O) (he:eU false cs sk=some e) (hl:bG ra sk is=some row) (hn:off+n<=e.length) (hnown:CT.nowns ((e.drop off).take n)=true) (hnp:fe ((e.drop off).take n)=true)
  {g:Bool} {v:Value} (h1:g=true->v = .agg ((List.range n).map fun k=>cellD w B (O+off+k)).toArray) (h0:g=false->v=cellD w B (O+off)/\n=1) (hlive:CT.lives ((e.drop off).take n)=true) :
  R ac κ0 w0 (aU κ (fF d) none) w N (iA tg d (.val g ((e.drop off).take n))) (upd sv d (.v ((row.drop off).take n) [])) (upd tm d v):=by
 obtain ⟨o,p,j,rfl,hr,hrow⟩:=h.row ht hs hp he hl;have hsub:=jE n (jD off hrow);have hlen:((e.drop off).take n).length=n:=by simp;omega
 have hget:∀i,i<((e.drop off).take n).length->((List.range n).map fun k=>cellD w B (o+j+off+k)).getD (0+i) undef=cellD w B (o+(j+off+i)):=by
  intro i hi;rw [hlen] at hi;rw [Nat.zero_add,nP hi];congr 1;omega
 refine jR h hd (Grows.refl w) (fun _ _ h=>by cases h) ?_;simp only [TR,bC];refine ⟨_,(List.range n).map fun k=>cellD w B (o+j+off+k),rfl,?_,by simp [hlen],dV hnp,?_⟩
 ·refine LQ h1 h0 fun hg => ?_
  have hn1:=(h0 hg).2;have:=eH (k:=0) hsub (aR (by omega)) (aR (by rw [bU hsub];omega));have hf:=FM (mX hlive (aR (by omega))) this;have:=Pi hf;simpa [Nat.add_assoc] using this
 ·exact iB (P:=fun _=>True) (fun S _ b hb=>jF (Grows.refl w) (fun _ _ h=>by cases h) S b hb) hnown (fJ (fun _=>trivial) _) (fun i hi=>hget i hi) hsub
theorem anY (h:R ac κ0 w0 κ w N tg sv tm) {d r:Nat} (hd:d<N) (hdr:r≠d) {cs e:List CT} {sk:Sk} {is S S':List Nat} {B O off n:Nat} (ht:(tg r).cts=some cs) {ra row:List A} (hs:sv r = .v ra [])
  (hp:FL κ w tg tm r sk is S B O) (he:eU false cs sk=some e) (hl:bG ra sk is=some row) (hn:off+n<=e.length)
  {g:Bool} {v:Value} (h1:g=true->v = .agg ((List.range n).map fun k=>cellD w B (O+off+k)).toArray) (h0:g=false->v=cellD w B (O+off)/\n=1) (hlive:CT.lives ((e.drop off).take n)=true)
  (hr:r∈S') (hS:∀q,q∈S->q∈S') (hS2:∀q,q∈CT.srcss ((e.drop off).take n)->q∈S') :
  R ac κ0 w0 (aU κ (fF d) none) w N (iA tg d (.alias g (CT.roizes S' ((e.drop off).take n)) r sk off S')) (upd sv d (.v ((row.drop off).take n) is)) (upd tm d v):=by
 have hp':=hp;obtain ⟨o,p,j,hO,hrd,hrow⟩:=h.row ht hs hp he hl;subst hO;have hsub:=jE n (jD off hrow);have hlen:((e.drop off).take n).length=n:=by simp;omega
 have hget:∀i,i<((e.drop off).take n).length->((List.range n).map fun k=>cellD w B (o+j+off+k)).getD (0+i) undef=cellD w B (o+(j+off+i)):=by
  intro i hi;rw [hlen] at hi;rw [Nat.zero_add,nP hi];congr 1;omega
 have hcl:=fun S b hb=>jF (κ:=κ) (w:=w) (w':=w) (d:=d) (nb:=none) (Grows.refl w) (fun _ _ h=>by cases h) S b hb
 refine jR h hd (Grows.refl w) (fun _ _ h=>by cases h) ?_;simp only [TR,bC,iA,upd_ne _ _ _ hdr,(jP w [d] [] (tg r) (tm r)).2,show rg w ((tg r).kill [d] []) (tm r)=rg w (tg r) (tm r) from (jP w [d] [] (tg r) (tm r)).1];have hpo:PO κ w S' (rg w (tg r) (tm r)) sk is:=PO_mono hS hp.po;have hpo':PO (aU κ (fF d) none) w S' (rg w (tg r) (tm r)) sk is:=(uR (hcl S') (fun k _=>rfl) hpo hp.addr).2;have g6:ax κ w (CT.roizes S' ((e.drop off).take n)) (d,[]) 0 (fun k=>((List.range n).map fun k=>cellD w B (o+j+off+k)).getD k undef) ((row.drop off).take n):=
  Pg hlive hr (iC hS2) (fun i hi=>hget i hi) hsub
 have hne:∀k,k<n->cellD w B (o+j+off+k)≠undef:=by
  intro k hk;have:=aiI hlive hsub k (by rw [hlen];exact hk);simpa [Nat.add_assoc] using this
 obtain ⟨gf,hgf,hgk⟩:∃gf,dU w (rg w (tg r) (tm r)) sk is=some gf/\∀k,k<n->gf (off+k)=cellD w B (o+j+off+k):=by
  cases sk with
  | nil=>
   cases is with
   | cons=>simp [bG] at hl
   | nil=>
    refine ⟨_,rfl,fun k hk => ?_⟩;have ha:=hp.addr;simp only [eY,wk,Option.map_eq_some_iff,Prod.mk.injEq] at ha;obtain ⟨b,hb,rfl,h00⟩:=ha;have:o+j=0:=by omega
    rw [this,Nat.zero_add];cases hT:tg r with
    | box cs'=>
     rw [hT] at hb;cases hx:tm r with
     | pointer a=>
      cases a with
      | none=>rw [hx] at hb;simp [rb] at hb
      | some a=>rw [hx] at hb;simp [rb] at hb;subst hb;simp [rg]
     | _=>rw [hx] at hb;simp [rb] at hb
    | _=>rw [hT] at hb;simp [rb] at hb
  | cons s sk=>
   refine ⟨fun k=>cellD w B (o+j+k),?_,fun k _=>by simp only [Nat.add_assoc]⟩;have ha:=hp.addr;simp only [eY] at ha;simp only [dU];rw [wk_bo (by simp) none ha];rfl
 refine ⟨_,is,(List.range n).map fun k=>cellD w B (o+j+off+k),gf,ra,row,rfl,?_,by simp [bQ,hlen],rH _ _,
  iB (P:=fun _=>True) (fun S _ b hb=>hcl S b hb) (kz _ _) (fJ (fun _=>trivial) _) (fun _ _=>rfl) g6,hgf,hpo',fun b hb=>rJ hdr (hp.root b hb) h.col,fun _=>hr,fun k hk => ?_,?_,hl,by rw [bQ,hlen]⟩
 ·refine LQ h1 h0 fun hg => ?_
  have hn1:=(h0 hg).2;have:=eH (k:=0) hsub (aR (by omega)) (aR (by rw [bU hsub];omega));have hf:=FM (mX hlive (aR (by omega))) this;have:=Pi hf;simpa [Nat.add_assoc] using this
 ·rw [bQ,hlen] at hk;rw [nP hk];exact ⟨hgk k hk,hne k hk⟩
 ·exact hs
where
 PO_mono {κ:aH} {w:World} {S S':List Nat} (hS:∀q,q∈S->q∈S'):∀{sk:Sk} {is:List Nat} {g:Nat->Value},PO κ w S g sk is->PO κ w S' g sk is
  | [],_,_,_=>by simp [PO]
  | _::_,[],_,_=>by simp [PO]
  | (c,n)::sk,i::is,g,h=>by
   simp only [PO] at h ⊢
   split
   ·rename_i a _ _ hx
    simp only [hx] at h
    exact ⟨CU h.1 hS,PO_mono hS h.2⟩
   ·trivial
 wk_bo {w:World}:∀{sk:Sk} {is:List Nat} {g:Nat->Value} {bo:Option (Nat × Nat)} {x:Nat × Nat},sk≠[]->∀bo':Option (Nat × Nat),wk w g bo sk is=some x->wk w g bo' sk is=some x
  | [],_,_,_,_,h,_,_=>absurd rfl h
  | _::_,[],_,_,_,_,_,h=>by simp [wk] at h
  | (c,n)::sk,i::is,g,bo,x,_,bo',h=>by simp only [wk] at h ⊢;exact h
end
end Go.Fw
namespace Go.Fw
def iF (r off n d:Nat) (p:Pl):Option Pl:=
 if p.1=r then match p.2 with
  | k::q=>if off<=k/\k<off+n then some (d,(k-off)::q) else some (r,k::q)
  | []=>some (r,[])
 else if p.1=d then none else some p
def qH:CT->CT
 | .sl _ e=>.sl .dead e
 | .d=>.d
def iJ (off n:Nat):List CT->List CT
 | cs=>cs.zipIdx.map fun p=>if off<=p.2/\p.2<off+n then qH p.1 else p.1
theorem gu (off n:Nat) (cs:List CT):(iJ off n cs).length=cs.length:=by simp [iJ]
theorem qI (off n:Nat) (cs:List CT) (k:Nat):(iJ off n cs)[k]?=(cs[k]?).map fun c=>if off<=k/\k<off+n then qH c else c:=by
 simp [iJ,List.getElem?_zipIdx];cases cs[k]?<;>simp
theorem pY {M:List Nat}:∀{cs:List CT} {k:Nat} {c:CT},CT.mens M cs=false->cs[k]?=some c->c.men M=false
 | c::cs,0,c',h,hc=>by simp at hc;subst hc;simp only [CT.mens,Bool.or_eq_false_iff] at h;exact h.1
 | c::cs,k+1,c',h,hc=>by simp only [CT.mens,Bool.or_eq_false_iff] at h;exact pY h.2 (by simpa using hc)
 | [],_,_,_,hc=>by simp at hc
theorem aiK {M:List Nat} {cs:List CT} (h:CT.mens M cs=false) (k:Nat):CT.mens M (cs.drop k)=false:=by
 induction k generalizing cs with
 | zero=>simpa using h
 | succ k ih=>cases cs with
  | nil=>simp [CT.mens]
  | cons c cs=>simp only [CT.mens,Bool.or_eq_false_iff] at h;simpa using ih h.2
theorem aiL {M:List Nat} {cs:List CT} (h:CT.mens M cs=false) (k:Nat):CT.mens M (cs.take k)=false:=by
 induction k generalizing cs with
 | zero=>simp [CT.mens]
 | succ k ih=>cases cs with
  | nil=>simp [CT.mens]
  | cons c cs=>simp only [CT.mens,Bool.or_eq_false_iff] at h;simp only [List.take_succ_cons,CT.mens,Bool.or_eq_false_iff];exact ⟨h.1,ih h.2⟩
section
variable {ac:Nat->Nat->Value} {κ0 κ:aH} {w0 w w':World} {N:Nat} {tg:Nat->TT} {sv:Nat->AV} {tm:Nat->Value}
theorem aan {r off n d:Nat}:∀r' q p,iF r off n d (r',q)=some p->r'∉[r]->p=(r',q):=by
 intro r' q p h hr;simp at hr;unfold iF at h;simp only [hr,if_false] at h;split at h
 ·cases h
 ·cases h;rfl
theorem aao (h:R ac κ0 w0 κ w N tg sv tm) {d r:Nat} (hd:d<N) (hdr:d≠r) {off n:Nat} {cs:List CT} {ra:List A} {get:Nat->Value} {tag':TT}
  (hroot:ax κ w cs (r,[]) 0 get ra) (hm:CT.mens [r] cs=false) (hn:off+n<=cs.length) {g:Bool} {x:Value} {vs:List Value} (hx:cellsOf g x=some vs) (hvl:vs.length=n)
  (hvs:∀i,i<n->vs.getD i undef=get (off+i)) (hpin:mV ac ((cs.drop off).take n) fun k=>vs.getD k undef)
  (hr:∀(κ':aH),κ'=aU κ (iF r off n d) none->ax κ' w (iJ off n cs) (r,[]) 0 get ra->(κ'=aU κ (iF r off n d) none) ->
   TR ac κ' w (upd (upd (fun t=>(tg t).kill [d,r] [r]) r tag') d (.val g ((cs.drop off).take n))) (upd sv d (.v ((ra.drop off).take n) [])) (upd tm d x) r tag') (htr:r<N) :
  R ac κ0 w0 (aU κ (iF r off n d) none) w N (upd (upd (fun t=>(tg t).kill [d,r] [r]) r tag') d (.val g ((cs.drop off).take n))) (upd sv d (.v ((ra.drop off).take n) [])) (upd tm d x):=by
 have hcol:∀b p,κ b=some p->aU κ (iF r off n d) none b=iF r off n d p:=fun b p hb=>mY (fun _ _ h=>by cases h) h.col hb
 have hro:∀S,(∀m,m∈[r]->m∉S)->∀b,aW κ w S b->aW (aU κ (iF r off n d) none) w S b/\Same w w b:=
  fun S hS b hb=>jS (Grows.refl w) aan (fun _ _ h=>by cases h) hS b hb
 refine Wp (mods:=[d,r]) (M:=[r]) h (by have:=h.nle;simp;omega) (Grows.refl w) (fun r' q hr' => ?_) aan (fun _ _ h=>by cases h) (fun t ht => ?_) (fun t ht => ?_) (fun t ht => ?_) (fun t ht => ?_) (fun t ht => ?_)
 ·simp at hr';simp [iF,hr']
 ·simp at ht;simp [upd,ht]
 ·simp at ht;simp [upd,ht]
 ·simp at ht;simp [upd,ht]
 ·simp at ht;rcases ht with rfl|rfl
  ·rw [bC];simp only [TR,bC];refine ⟨_,vs,rfl,hx,by simp [hvl];omega,hpin,?_⟩;have:=dQ (f:=id) (P:=fun S=>∀m,m∈[r]->m∉S) (κ':=aU κ (iF r off n t) none) (w':=w) (p':=(t,[])) (j':=0) (get':=fun k=>vs.getD k undef) hro
    (dA (fun S hS=>hS) (aiL (aiK hm off) n)) (fun i hi b q hb => ?_) (fun i hi => ?_) (jE n (jD off hroot))
   ·rwa [fE] at this
   ·refine ⟨?_,Same.refl w b⟩;rw [hcol b _ hb];have hi':i<n:=by simp at hi;omega
    simp only [iF,if_true,List.nil_append];rw [if_pos (by omega)];simp
   ·have hi':i<n:=by simp at hi;omega
    simp only [Nat.zero_add];exact hvs i hi'
  ·rw [upd_ne _ _ _ (Ne.symm hdr),bC];refine hr _ rfl ?_ rfl;refine jN (by rw [gu];exact bU hroot) fun k c a hc ha => ?_
   rw [qI] at hc;cases hc0:cs[k]? with
   | none=>simp [hc0] at hc
   | some c0=>
    simp only [hc0,Option.map_some,aF] at hc;have h0:=eH hroot hc0 ha;split at hc
    ·subst hc;cases c0 with
     | d=>simp only [qH];cases a with
      | v y=>simp only [RC] at h0 ⊢;exact h0
      | s xs=>simp [RC] at h0
     | sl m e=>simp only [qH,RC]
    ·rename_i hk;subst hc;refine qG (uS (fun S hS=>hro S hS) (pY hm hc0)) (fun b q hb=>⟨?_,Same.refl w b⟩) h0;rw [hcol b _ hb];simp only [Pl.at,Nat.zero_add,List.nil_append,List.singleton_append] at hb ⊢;rw [hb];simp only [iF,if_true];rw [if_neg hk]
 ·have h1:t≠d:=by omega
  have h2:t≠r:=by omega
  simp [upd,h1,h2,h.out t ht,TT.kill]
theorem ao8 (h:R ac κ0 w0 κ w N tg sv tm) {t r:Nat} (htN:t<N) (hrN:r<N) (htr:t≠r) {ag:Bool} {cs0 cs:List CT} {off:Nat} {S:List Nat} (ht:tg t = .alias ag cs0 r [] off S) (hr:(tg r).cts=some cs)
  (hm:CT.mens [r] cs=false) (hn:off+cs0.length<=cs.length) {as is} (hs:sv t = .v as is) {tag':TT} (htag:tag'=match tg r with | .val g _=>.val g (iJ off cs0.length cs) | .box _=>.box (iJ off cs0.length cs)|x=>x) :
  R ac κ0 w0 (aU κ (iF r off cs0.length t) none) w N (upd (upd (fun u=>(tg u).kill [t,r] [r]) r tag') t (.val ag ((cs.drop off).take cs0.length))) (upd sv t (.v as [])) tm:=by
 have h1:=h.tr t;rw [ht] at h1;simp only [TR] at h1;obtain ⟨as',is',vs,g,ra,row,g1,g2,g3,gl,g4,g5,g6,g7,g8,g9,g10,g11,g12⟩:=h1;rw [hs] at g1;cases g1;have his:is=[]:=by
  cases is with
  | nil=>rfl
  | cons=>simp [dU] at g5
 subst his;simp only [dU,aF] at g5;subst g5;simp only [bG,aF] at g11;subst g11;have hroot:=h.root hr g10;have hk:=h.tr r;have htm:upd tm t (tm t)=tm:=by funext u;simp only [upd];split<;>simp_all
 rw [<-htm,g12];refine aao h htN htr hroot hm hn g2 g3 (fun i hi=>(g9 i hi).1.symm) ?_ (fun κ' hκ hdead _ => ?_) hrN
 ·-- pins
  intro k j c e hc;have hk':k<cs0.length:=by
   have:=(aY hc).1;simp at this;omega
  show vs.getD k undef=ac j c;rw [<-(g9 k hk').1];have hc':cs[off+k]?=some (.sl (.own (some (j,c))) e):=by
   rw [List.getElem?_take_of_lt hk',List.getElem?_drop] at hc;exact hc
  cases hT:tg r with
  | val gg cs'=>
   rw [hT] at hk hr;simp only [TT.cts,aF] at hr;subst hr;simp only [TR] at hk;obtain ⟨as2,vs2,k1,k2,k3,k4,k5⟩:=hk;have:=k4 (off+k) j c e hc';simp [rg,k2] at this ⊢;exact this
  | box cs'=>
   rw [hT] at hk hr;simp only [TT.cts,aF] at hr;subst hr;simp only [TR] at hk;obtain ⟨as2,b,k1,k2,k3,k4,k5,k6,k7⟩:=hk;have:=k6 (off+k) j c e hc';simp [rg,k2] at this ⊢;exact this
  | dead=>rw [hT] at hr;simp [TT.cts] at hr
  | alias=>rw [hT] at hr;simp [TT.cts] at hr
  | ptr=>rw [hT] at hr;simp [TT.cts] at hr
  | tup=>rw [hT] at hr;simp [TT.cts] at hr
 ·subst htag;have hpd:∀get,mV ac cs get->mV ac (iJ off cs0.length cs) get:=by
   intro get hp k j c e hc;rw [qI] at hc;cases hc0:cs[k]? with
   | none=>simp [hc0] at hc
   | some c0=>
    simp only [hc0,Option.map_some,aF] at hc;split at hc
    ·cases c0<;>simp [qH] at hc
    ·exact hp k j c e (by rw [hc0,hc])
  cases hT:tg r with
  | val gg cs'=>
   rw [hT] at hk hr hdead;simp only [TT.cts,aF] at hr;subst hr;simp only [TR,upd_ne _ _ _ (Ne.symm htr)] at hk ⊢;obtain ⟨as2,vs2,k1,k2,k3,k4,k5⟩:=hk;rw [g10] at k1;cases k1;have:rg w (.val gg cs') (tm r)=fun k=>vs2.getD k undef:=by funext k;simp [rg,k2]
   rw [this] at hdead;exact ⟨_,vs2,g10,k2,by rw [gu];exact k3,hpd _ k4,hdead⟩
  | box cs'=>
   rw [hT] at hk hr hdead;simp only [TT.cts,aF] at hr;subst hr;simp only [TR,upd_ne _ _ _ (Ne.symm htr)] at hk ⊢;obtain ⟨as2,b,k1,k2,k3,k4,k5,k6,k7⟩:=hk;rw [g10] at k1;cases k1;have:rg w (.box cs') (tm r)=cellD w b:=by funext k;simp [rg,k2]
   rw [this] at hdead;refine ⟨_,b,g10,k2,k3,?_,by rw [gu];exact k5,hpd _ k6,hdead⟩;rw [hκ,mY (fun _ _ h=>by cases h) h.col k4];simp [iF]
  | dead=>rw [hT] at hr;simp [TT.cts] at hr
  | alias=>rw [hT] at hr;simp [TT.cts] at hr
  | ptr=>rw [hT] at hr;simp [TT.cts] at hr
  | tup=>rw [hT] at hr;simp [TT.cts] at hr
end
end Go.Fw
namespace Go.Fw
section
variable {ac:Nat->Nat->Value} {κ0 κ:aH} {w0 w w':World} {N:Nat} {tg:Nat->TT} {sv:Nat->AV} {tm:Nat->Value}
theorem aiM (h:R ac κ0 w0 κ w N tg sv tm) {d t:Nat} (hd:d<N) (htN:t<N) (hdt:d≠t) {ws:List (Bool × Nat)} {cs:List CT} (ht:tg t = .tup ws cs) (hm:CT.mens [t] cs=false)
  {off n:Nat} (hn:off+n<=cs.length) {g:Bool} {x:Value} {as:List A} (hs:sv t = .v as []) (hnp:fe ((cs.drop off).take n)=true)
  (hx:∀xs vs,tm t = .tuple xs->pQ ws xs.toList=some vs->cellsOf g x=some ((vs.drop off).take n)) :
  R ac κ0 w0 (aU κ (iF t off n d) none) w N (upd (upd (fun u=>(tg u).kill [d,t] [t]) t (.tup ws (iJ off n cs))) d (.val g ((cs.drop off).take n))) (upd sv d (.v ((as.drop off).take n) [])) (upd tm d x):=by
 have h1:=h.tr t;rw [ht] at h1;simp only [TR] at h1;obtain ⟨as',xs,vs,g1,g2,g3,g4,g5⟩:=h1;rw [hs] at g1;cases g1;have hvs:∀i,i<n->((vs.drop off).take n).getD i undef=vs.getD (off+i) undef:=by
  intro i hi;simp only [bN];rw [List.getElem?_take_of_lt hi,List.getElem?_drop]
 refine aao h hd hdt g5 hm hn (hx xs vs g2 g3) (by simp;omega) hvs (dV hnp) (fun κ' hκ hdead _ => ?_) htN;simp only [TR,upd_ne _ _ _ (Ne.symm hdt)];exact ⟨_,xs,vs,hs,g2,g3,by rw [gu];exact g4,hdead⟩
theorem aap (h:R ac κ0 w0 κ w N tg sv tm) {d r:Nat} (hd:d<N) (hr:r≠d) {sk:Sk} {is S:List Nat} {B O off:Nat} (hp:FL κ w tg tm r sk is S B O) :
  R ac κ0 w0 (aU κ (fF d) none) w N (iA tg d (.ptr r sk off S)) (upd sv d (.p is)) (upd tm d (.pointer (some ⟨B,O+off,none⟩))):=by
 refine jR h hd (Grows.refl w) (fun _ _ h=>by cases h) ?_;have hcl:=fun S b hb=>jF (κ:=κ) (w:=w) (w':=w) (d:=d) (nb:=none) (Grows.refl w) (fun _ _ h=>by cases h) S b hb
 simp only [TR,bC,iA,upd_ne _ _ _ hr,(jP w [d] [] (tg r) (tm r)).2,show rg w ((tg r).kill [d] []) (tm r)=rg w (tg r) (tm r) from (jP w [d] [] (tg r) (tm r)).1];exact ⟨is,B,O,rfl,hp.addr,(uR (hcl S) (fun k _=>rfl) hp.po hp.addr).2,fun b hb=>rJ hr (hp.root b hb) h.col,rfl⟩
theorem Pj {w:World} {c n i b o len cap:Nat}:∀{sk:Sk} {is:List Nat} {g gf:Nat->Value} {bo:Option (Nat × Nat)},dU w g sk is=some gf->gf c = .slice (some ⟨b,o,none⟩) len cap->i<len ->
  wk w g bo (sk++[(c,n)]) (is++[i])=some (b,o+i*n)
 | [],[],g,gf,bo,h,hx,hi=>by
  simp only [dU,aF] at h;subst h;simp [wk,hx,hi]
 | [],_::_,_,_,_,h,_,_=>by simp [dU] at h
 | (c0,n0)::sk,[],_,_,_,h,_,_=>by simp [dU,wk] at h
 | (c0,n0)::sk,i0::is,g,gf,bo,h,hx,hi=>by
  simp only [dU,Option.map_eq_some_iff,wk] at h;obtain ⟨BO,h,rfl⟩:=h;split at h;case h_2=>simp at h
  case h_1 b0 o0 acM cap0 hx0=>
  split at h;case isFalse=>simp at h
  case isTrue hi0=>
  simp only [List.cons_append,wk,hx0,if_pos hi0];cases sk with
  | nil=>
   cases is with
   | cons=>simp [wk] at h
   | nil=>
    simp only [wk,aF] at h;subst h;exact Pj (sk:=[]) (is:=[]) (gf:=fun k=>cellD w b0 (o0+i0*n0+k)) rfl hx hi
  | cons s sk=>
   refine Pj (sk:=s::sk) (gf:=fun k=>cellD w BO.1 (BO.2+k)) ?_ hx hi;simp only [dU];rw [show wk w (fun k=>cellD w b0 (o0+i0*n0+k)) none (s::sk) is=some BO from ?_]
   ·rfl
   ·rw [<-h];cases is with
    | nil=>simp [wk]
    | cons i1 is=>obtain ⟨c1,n1⟩:=s;simp [wk]
theorem Pk {κ:aH} {w:World} {S:List Nat} {c n i:Nat}:∀{sk:Sk} {is:List Nat} {g gf:Nat->Value},dU w g sk is=some gf->PO κ w S g sk is->(∀a len cap,gf c = .slice (some a) len cap->aW κ w S a.block) ->
  PO κ w S g (sk++[(c,n)]) (is++[i])
 | [],[],g,gf,h,_,hx=>by
  simp only [dU,aF] at h;subst h;simp only [List.nil_append,PO];split
  ·rename_i a len cap ha;exact ⟨hx a len cap ha,trivial⟩
  ·trivial
 | [],_::_,_,_,h,_,_=>by simp [dU] at h
 | (c0,n0)::sk,[],_,_,h,_,_=>by simp [dU,wk] at h
 | (c0,n0)::sk,i0::is,g,gf,h,hp,hx=>by
  simp only [dU,Option.map_eq_some_iff,wk] at h;obtain ⟨BO,h,rfl⟩:=h;split at h;case h_2=>simp at h
  case h_1 b0 o0 acM cap0 hx0=>
  split at h;case isFalse=>simp at h
  case isTrue hi0=>
  simp only [PO,hx0] at hp;simp only [List.cons_append,PO,hx0];refine ⟨hp.1,?_⟩;cases sk with
  | nil=>
   cases is with
   | cons=>simp [wk] at h
   | nil=>
    simp only [wk,aF] at h;subst h;exact Pk (sk:=[]) (is:=[]) (gf:=fun k=>cellD w b0 (o0+i0*n0+k)) rfl (by simp [PO]) hx
  | cons s sk=>
   refine Pk (sk:=s::sk) (gf:=fun k=>cellD w BO.1 (BO.2+k)) ?_ hp.2 hx;simp only [dU];rw [show wk w (fun k=>cellD w b0 (o0+i0*n0+k)) none (s::sk) is=some BO from ?_]
   ·rfl
   ·rw [<-h];cases is with
    | nil=>simp [wk]
    | cons i1 is=>obtain ⟨c1,n1⟩:=s;simp [wk]
theorem Qd {κ:aH} {w:World} {m:Md} {e:List CT} {p:Pl} {x:Value} {xs:List (List A)} {S:List Nat} (hp2:p.2≠[]) (hm:(∃S0,m = .ro S0/\∀r,r∈S0->r∈S)\/(∃k,m = .own k)/\p.1∈S) (h:RC κ w (.sl m e) p x (.s xs)) :
  ∃ao cap,x = .slice ao xs.length cap/\(xs≠[]->∃b o,ao=some ⟨b,o,none⟩/\aW κ w S b):=by
 rcases hm with ⟨S0,rfl,hS⟩|⟨⟨k,rfl⟩,hp⟩
 ·simp only [RC] at h;obtain ⟨ao,cap,hx,hle,hc⟩:=h;refine ⟨ao,cap,hx,fun hne => ?_⟩;rcases hc with h0|⟨b,o,rfl,hb,_,_⟩
  ·exact absurd h0 hne
  ·exact ⟨b,o,rfl,CU hb hS⟩
 ·simp only [RC] at h;obtain ⟨ao,cap,hx,hle,hc⟩:=h;refine ⟨ao,cap,hx,fun hne => ?_⟩;rcases hc with ⟨_,h0⟩|⟨b,o,rfl,hs,hb,_,_⟩
  ·have:xs.length=0:=by omega
   exact absurd (List.length_eq_zero_iff.1 this) hne
  ·exact ⟨b,o,rfl,aes hs hb hp hp2⟩
theorem R.pla_val (h:R ac κ0 w0 κ w N tg sv tm) {t:Nat} {m:Md} {e:List CT} (ht:tg t = .val false [.sl m e]) {S:List Nat} (hm:(∃S0,m = .ro S0/\∀r,r∈S0->r∈S)\/(∃k,m = .own k)/\t∈S)
  {xs:List (List A)} (hs:sv t = .v [.s xs] []) {i:Nat} (hi:i<xs.length) (n:Nat) :
  ∃b o cap,tm t = .slice (some ⟨b,o,none⟩) xs.length cap/\FL κ w tg tm t [(0,n)] [i] S b (o+i*n):=by
 have h1:=h.tr t;rw [ht] at h1;simp only [TR] at h1;obtain ⟨as,vs,g1,g2,g3,g4,g5⟩:=h1;rw [hs] at g1;cases g1;have hvs:vs=[tm t]:=by
  cases hx:tm t<;>rw [hx] at g2<;>simp [cellsOf] at g2<;>exact g2.symm
 subst hvs;simp only [ax] at g5;have hne:xs≠[]:=by rintro rfl;simp at hi
 obtain ⟨ao,cap,hx,hb⟩:=Qd (S:=S) (by simp [Pl.at]) (hm.imp id fun h=>⟨h.1,h.2⟩) g5.1;obtain ⟨b,o,rfl,hok⟩:=hb hne;simp at hx;have hrg:rg w (tg t) (tm t) 0 = .slice (some ⟨b,o,none⟩) xs.length cap:=by rw [ht,hx];rfl
 refine ⟨b,o,cap,hx,⟨?_,?_,fun b' hb'=>by rw [ht] at hb';simp [rb] at hb'⟩⟩
 ·have:=Pj (w:=w) (c:=0) (n:=n) (i:=i) (sk:=[]) (is:=[]) (bo:=(rb (tg t) (tm t)).map fun b=>(b,0)) (g:=rg w (tg t) (tm t)) rfl hrg hi;simpa [eY] using this
 ·have:=Pk (κ:=κ) (w:=w) (S:=S) (c:=0) (n:=n) (i:=i) (sk:=[]) (is:=[]) (g:=rg w (tg t) (tm t)) rfl (by simp [PO]) (fun a len cap' ha=>by rw [hrg] at ha;cases ha;exact hok);simpa using this
theorem R.pla_alias (h:R ac κ0 w0 κ w N tg sv tm) {t r:Nat} {S0:List Nat} {e:List CT} {sk:Sk} {off:Nat} {S:List Nat} (ht:tg t = .alias false [.sl (.ro S0) e] r sk off S) (hS:∀r,r∈S0->r∈S)
  {xs:List (List A)} {is:List Nat} (hs:sv t = .v [.s xs] is) {i:Nat} (hi:i<xs.length) (n:Nat) :
  ∃b o cap,tm t = .slice (some ⟨b,o,none⟩) xs.length cap/\FL κ w tg tm r (sk++[(off,n)]) (is++[i]) S b (o+i*n):=by
 have h1:=h.tr t;rw [ht] at h1;simp only [TR] at h1;obtain ⟨as,is',vs,g,ra,row,g1,g2,g3,gl,g4,g5,g6,g7,g8,g9,g10,g11,g12⟩:=h1;rw [hs] at g1;cases g1;have hvs:vs=[tm t]:=by
  cases hx:tm t<;>rw [hx] at g2<;>simp [cellsOf] at g2<;>exact g2.symm
 subst hvs;simp only [ax] at g4;have hne:xs≠[]:=by rintro rfl;simp at hi
 obtain ⟨ao,cap,hx,hb⟩:=Qd (S:=S) (by simp [Pl.at]) (.inl ⟨S0,rfl,hS⟩) g4.1;obtain ⟨b,o,rfl,hok⟩:=hb hne;simp at hx;have hg0:g off = .slice (some ⟨b,o,none⟩) xs.length cap:=by
  have:=(g9 0 (by simp)).1;simp [hx] at this;simpa using this
 refine ⟨b,o,cap,hx,⟨?_,?_,g7⟩⟩
 ·exact Pj g5 hg0 hi
 ·exact Pk g5 g6 (fun a len cap' ha=>by rw [hg0] at ha;cases ha;exact hok)
end
end Go.Fw
namespace Go.Fw
theorem jT {α:Type} {l x:List α} {off:Nat} (h:off+x.length<=l.length) (k:Nat) :
  (splice l off x)[k]?=if k<off then l[k]? else if k<off+x.length then x[k-off]? else l[k]?:=by
 unfold splice;split
 ·rw [List.getElem?_append_left (by simp;omega),List.getElem?_take_of_lt (by omega)]
 ·rw [List.getElem?_append_right (by simp;omega)];have hmin:(List.take off l).length=off:=by simp;omega
  rw [hmin];split
  ·rw [List.getElem?_append_left (by omega)]
  ·rw [List.getElem?_append_right (by omega),List.getElem?_drop];congr 1;omega
def Tt (g g':Nat->Value):Prop:=∀k a l c,g k = .slice a l c->g' k = .slice a l c
theorem amx {κ:aH} {w w':World} {S:List Nat} (hsz:w'.heap.size=w.heap.size) (hc:∀b,Tt (cellD w b) (cellD w' b)) :
  ∀{sk:Sk} {is:List Nat} {g g':Nat->Value} {bo:Option (Nat × Nat)} {x:Nat × Nat},Tt g g'->wk w g bo sk is=some x->wk w' g' bo sk is=some x/\(PO κ w S g sk is->PO κ w' S g' sk is)
 | [],[],_,_,_,_,_,h=>by simp only [wk,PO] at h ⊢;exact ⟨h,fun _=>trivial⟩
 | [],_::_,_,_,_,_,_,h=>by simp [wk] at h
 | _::_,[],_,_,_,_,_,h=>by simp [wk] at h
 | (c,n)::sk,i::is,g,g',bo,x,hg,h=>by
  simp only [wk] at h;split at h;case h_2=>simp at h
  case h_1 b o len cap hx=>
  split at h;case isFalse=>simp at h
  case isTrue hi=>
  have hx':=hg c _ _ _ hx;have hrec:=amx (κ:=κ) (S:=S) hsz hc (g':=fun k=>cellD w' b (o+i*n+k)) (fun k a l c' hk=>hc b _ a l c' hk) h;simp only [wk,PO,hx,hx',if_pos hi];refine ⟨hrec.1,fun hp=>⟨⟨by rw [hsz];exact hp.1.1,hp.1.2⟩,hrec.2 hp.2⟩⟩
theorem alu {w:World} {b o:Nat} {vs:List Value} (hd:∀k,k<vs.length->sc (cellD w b (o+k))=true) (b':Nat):Tt (cellD w b') (cellD (bB w b o vs) b'):=by
 intro k a l c hk;unfold cellD at hk ⊢;rw [eZ];split
 ·rename_i h;obtain ⟨rfl,h1,h2⟩:=h;have:=hd (k-o) (by omega);rw [show o+(k-o)=k from by omega] at this;unfold cellD at this;rw [hk] at this;simp [sc] at this
 ·exact hk
section
variable {ac:Nat->Nat->Value} {κ0 κ:aH} {w0 w w':World} {N:Nat} {tg:Nat->TT} {sv:Nat->AV} {tm:Nat->Value}
def mh (cs:List CT):Bool:=cs.all fun c=>match c with
 | .d=>true
 | _=>false
theorem Rt {cs:List CT} (h:mh cs=true) {k:Nat} {c:CT} (hc:cs[k]?=some c):c = .d:=by
 have:=List.all_eq_true.1 h _ (List.mem_of_getElem? hc);cases c with
 | d=>rfl
 | sl m e=>simp at this
def TT.killD (r:Nat) (M:List Nat):TT->TT
 | .ptr r' sk off S=>if r'=r then .ptr r' sk off S else (TT.ptr r' sk off S).kill [r] M
 | x=>x.kill [r] M
theorem aiN {sk:Sk} {is p:List Nat} {j:Nat} (hs:sk≠[]) (hi:is≠[]):(bD p j sk is).1≠[]:=by
 have:=GJ sk is p j hs hi;intro h;rw [h] at this;simp at this
theorem wS {M:List Nat} {own:Bool}:∀{sk:Sk} {cs e:List CT},CT.mens M cs=false->eU own cs sk=some e->CT.mens M e=false
 | [],cs,e,h,ht=>by simp only [eU,aF] at ht;subst ht;exact h
 | (c,n)::sk,cs,e,h,ht=>by
  simp only [eU] at ht;split at ht
  ·rename_i k e0 hc;split at ht
   ·have:=pY h hc;simp only [CT.men] at this;exact wS this ht
   ·cases ht
  ·rename_i S e0 hc;split at ht
   ·have:=pY h hc;simp only [CT.men,Bool.or_eq_false_iff] at this;exact wS this.2 ht
   ·cases ht
  ·cases ht
theorem alx (h:R ac κ0 w0 κ w N tg sv tm) {r:Nat} (hrN:r<N) {cs e:List CT} {sk:Sk} {is S:List Nat} {B O off:Nat} (ht:(tg r).cts=some cs) {ra row:List A} (hs:sv r = .v ra [])
  (hp:FL κ w tg tm r sk is S B O) (he:eU true cs sk=some e) (hl:bG ra sk is=some row) {ys:List Value} (hn:off+ys.length<=e.length) (hd:mh ((e.drop off).take ys.length)=true) (hys:ys.all sc=true)
  (hm:CT.mens [r] cs=false) {M:List Nat} (hM:M=if sk=[] then [] else [r]) :
  Wrb w B (O+off) (O+off+ys.length) /\
  R ac κ0 w0 κ (bB w B (O+off) ys) N (upd (fun t=>(tg t).killD r M) r (tg r)) (upd sv r (.v (jd ra sk is (splice row off (ys.map .v))) [])) tm:=by
 have hfacts:=jk ys w B (O+off);have hsz:(bB w B (O+off) ys).heap.size=w.heap.size:=hfacts.1;have hroot:=h.root ht hs
 -- where it is
 obtain ⟨P,hκB,hP,hW,o,j,hO,hrow,hPj⟩:∃P,κ B=some (r,P)/\(sk=[]↔P=[])/\Wrb w B O (O+e.length)/\∃o j,O=o+j/\ax κ w e (r,P) j (fun k=>cellD w B (o+k)) row /\
   (sk≠[]->P=(bD [] 0 sk is).1/\j=(bD [] 0 sk is).2)/\(sk=[]->o+j=0/\e=cs/\row=ra/\is=[]/\j=0):=by
  cases sk with
  | nil=>
   cases is with
   | cons=>simp [bG] at hl
   | nil=>
    simp only [bG,aF,eU] at hl he;subst hl;subst he;have ha:=hp.addr;simp only [eY,wk,Option.map_eq_some_iff,Prod.mk.injEq] at ha;obtain ⟨b,hb,rfl,rfl⟩:=ha;have hκ:=hp.root b hb;cases hT:tg r with
    | box cs'=>
     have h1:=h.tr r;rw [hT] at h1 ht;simp only [TT.cts,aF] at ht;subst ht;simp only [TR] at h1;obtain ⟨as,b',g1,g2,g3,g4,g5,g6,g7⟩:=h1;rw [hs] at g1;cases g1;simp [rb,hT,g2] at hb;subst hb;exact ⟨[],g4,by simp,by simpa using g5,0,0,rfl,by simpa using g7,by simp,fun _=>by simp⟩
    | _=>rw [hT] at hb;simp [rb] at hb
  | cons s sk=>
   obtain ⟨b,o,g1,g2,g3,g4⟩:=zZ (bo:=(rb (tg r) (tm r)).map fun b=>(b,0)) (by simp) hroot he hl;have ha:=hp.addr;simp only [eY] at ha;simp only [Nat.zero_add] at g1;rw [ha] at g1;simp only [aF,Prod.mk.injEq] at g1;obtain ⟨rfl,rfl⟩:=g1;have his:is≠[]:=by rintro rfl;cases s;simp [bG] at hl
   exact ⟨_,g2,by simp [aiN (sk:=s::sk) (is:=is) (p:=[]) (j:=0) (by simp) his],g3,o,_,rfl,g4,fun _=>⟨rfl,rfl⟩,by simp⟩
 have hWn:Wrb w B (O+off) (O+off+ys.length):=hW.sub (by omega) (by omega);refine ⟨hWn,?_⟩;have hrange:∀k,k<ys.length->sc (cellD w B (O+off+k))=true:=by
  intro k hk;have hc:e[off+k]?=some .d:=by
   have h1:((e.drop off).take ys.length)[k]?=e[off+k]?:=by rw [List.getElem?_take_of_lt hk,List.getElem?_drop]
   have h2:off+k<e.length:=by omega
   rw [<-h1,aR (by simp;omega)];congr 1;exact Rt hd (aR _)
  have hlen:=bU hrow;have:=eH hrow hc (aR (by omega));cases ha:row[off+k]'(by omega) with
  | v y=>rw [ha] at this;simp only [RC] at this;rw [hO,show o+j+off+k=o+(j+(off+k)) from by omega,this.1];exact this.2
  | s xs=>rw [ha] at this;simp [RC] at this
 have hsl:∀b,Tt (cellD w b) (cellD (bB w B (O+off) ys) b):=fun b=>alu hrange b
 -- the new row
 have hrow':ax κ (bB w B (O+off) ys) e (r,P) j (fun k=>cellD (bB w B (O+off) ys) B (o+k)) (splice row off (ys.map .v)):=by
  have hlen:=bU hrow;refine jN (by rw [iR (by simp;omega)];exact hlen) fun k c a hc ha => ?_
  rw [jT (by simp;omega)] at ha;have hk:=(aY hc).1;have hold:(∀i,i<ys.length->k≠off+i)->row[k]?=some a->RC κ (bB w B (O+off) ys) c (Pl.at (r,P) (j+k)) (cellD (bB w B (O+off) ys) B (o+(j+k))) a:=by
   intro hne hak;have h0:=eH hrow hc hak;have hcell:cellD (bB w B (O+off) ys) B (o+(j+k))=cellD w B (o+(j+k)):=by
    unfold cellD;rw [eZ,if_neg];rintro ⟨_,h1,h2⟩;exact hne (k-off) (by omega) (by omega)
   rw [hcell];have hcm:c.men [r]=false:=by
    have:=wS hm he;exact pY this hc
   refine qG (uS (fun S hS b hb => ?_) hcm) (fun b q hb=>⟨rfl,bZ ?_⟩) h0
   ·have:b≠B:=by rintro rfl;exact hS r (by simp) (hb.2 _ _ hκB).1
    exact ⟨⟨by rw [hsz];exact hb.1,hb.2⟩,bZ this⟩
   ·rintro rfl;rw [hκB] at hb;simp [Pl.at] at hb
  by_cases h1:k<off
  ·rw [if_pos h1] at ha;exact hold (fun i _=>by omega) ha
  ·rw [if_neg h1] at ha;by_cases h2:k<off+(ys.map A.v).length
   ·rw [if_pos h2] at ha;simp at h2;simp only [List.getElem?_map] at ha;have hky:k-off<ys.length:=by omega
    rw [aR hky] at ha;simp only [Option.map_some,aF] at ha;subst ha;have hc':c = .d:=by
     refine Rt hd (k:=k-off) ?_;rw [List.getElem?_take_of_lt hky,List.getElem?_drop,show off+(k-off)=k from by omega];exact hc
    subst hc';simp only [RC];have:=wE hWn (k-off) hky;rw [show O+off+(k-off)=o+(j+k) from by omega] at this;rw [this];have hys':=List.all_eq_true.1 hys _ (List.getElem_mem hky);exact ⟨by simp [hky],hys'⟩
   ·rw [if_neg h2] at ha;simp at h2;exact hold (fun i hi=>by omega) ha
 -- others
 have hro:∀S,(∀m,m∈M->m∉S)->∀b,aW κ w S b->aW κ (bB w B (O+off) ys) S b/\Same w (bB w B (O+off) ys) b:=by
  intro S hS b hb;have:b≠B:=by
   rintro rfl;have h2:=hb.2 _ _ hκB;by_cases hsk:sk=[]
   ·exact h2.2 (hP.1 hsk)
   ·rw [hM,if_neg hsk] at hS;exact hS r (by simp) h2.1
  exact ⟨⟨by rw [hsz];exact hb.1,hb.2⟩,bZ this⟩
 refine oJ (mods:=[r]) (M:=M) h (by have:=h.nle;simp;omega) hro (fun b r' q hr' hb=>⟨rfl,bZ ?_⟩) (fun t ht' => ?_) (fun t ht' => ?_) (fun t _=>rfl) (fun t ht' => ?_) (fun t ht' => ?_) (fun b hb => ?_) ?_
 ·rintro rfl;simp at hr';rw [hκB] at hb;cases hb;exact hr' rfl
 ·simp at ht';simp only [upd,ht',if_false];cases hT:tg t with
  | ptr r' sk' off' S'=>
   simp only [TT.killD];by_cases hrr:r'=r
   ·subst hrr;right;simp only [if_true];refine ⟨fun x=>by simp,?_⟩;have h1:=h.tr t;rw [hT] at h1;simp only [TR,bC,upd_ne _ _ _ ht'] at h1 ⊢;obtain ⟨is',B',O',g1,g2,g3,g4,g5⟩:=h1;have hrgs:Tt (rg w (tg r') (tm r')) (rg (bB w B (O+off) ys) (tg r') (tm r')):=by
     intro k a l c hk;unfold rg at hk ⊢;split at hk
     ·exact hk
     ·exact hsl _ _ _ _ _ hk
     ·exact hk
    have:=amx (κ:=κ) (S:=S') hsz hsl hrgs (by simpa [eY] using g2);exact ⟨is',B',O',g1,by simpa [eY] using this.1,this.2 g3,g4,g5⟩
   ·simp only [hrr,if_false];exact .inl trivial
  | _=>left;simp [TT.killD]
 ·simp at ht';simp [upd,ht']
 ·simp at ht';subst ht';rw [bC];have h1:=h.tr t;cases hT:tg t with
  | val ag cs'=>
   rw [hT] at h1 ht;simp only [TT.cts,aF] at ht;subst ht;simp only [TR,bC] at h1 ⊢;obtain ⟨as,vs,g1,g2,g3,g4,g5⟩:=h1;rw [hs] at g1;cases g1;have hsk:sk≠[]:=by
    rintro rfl;have ha:=hp.addr;rw [hT] at ha;cases is<;>simp [eY,rb,wk] at ha
   refine ⟨_,vs,rfl,g2,g3,g4,?_⟩;have hrg:rg w (tg t) (tm t)=fun k=>vs.getD k undef:=by rw [hT];funext k;simp [rg,g2]
   have ha:=hp.addr;rw [hrg] at ha hroot;simp only [eY] at ha;obtain ⟨rfl,rfl⟩:=hPj.1 hsk;exact FI (bo:=(rb (tg t) (tm t)).map fun b=>(b,0)) hsk hroot he hl (by simpa using ha) (dA (fun S hS b hb=>hro S (by rw [hM,if_neg hsk];exact hS) b hb) hm)
    (fun b q hb hbB _=>⟨rfl,bZ hbB⟩) (fun hb=>by rw [hsz];exact hb) rfl
    (fun o' y ho' hy=>⟨by rw [eZ,if_neg (by rintro ⟨_,h1,h2⟩;exact ho' ⟨by omega,by omega⟩)];exact hy,hfacts.2.2.2.2.2 _ _⟩) (jQ hW) (fun o' ho'=>by
     have h9:o'=o:=by omega
     subst h9;exact hrow')
  | box cs'=>
   rw [hT] at h1 ht;simp only [TT.cts,aF] at ht;subst ht;simp only [TR,bC] at h1 ⊢;obtain ⟨as,b,g1,g2,g3,g4,g5,g6,g7⟩:=h1;rw [hs] at g1;cases g1;by_cases hsk:sk=[]
   ·obtain ⟨h0,rfl,rfl,rfl,rfl⟩:=hPj.2 hsk;have hbB:b=B:=by
     have ha:=hp.addr;rw [hT,g2,hsk] at ha;simp [eY,rb,wk] at ha;exact ha.1
    subst hbB;subst hsk;have ho:o=0:=by omega
    subst ho;have hP0:P=[]:=hP.1 rfl;subst hP0;refine ⟨_,b,rfl,g2,by rw [hsz];exact g3,g4,jQ g5,fun k j c e' hk => ?_,by simpa [jd] using hrow'⟩;have:=g6 k j c e' hk;rw [<-this];unfold cellD;rw [eZ,if_neg];rintro ⟨_,h1,h2⟩;have hky:k-off<ys.length:=by omega
    have:(CT.sl (.own (some (j,c))) e') = .d:=by
     refine Rt hd (k:=k-off) ?_;rw [List.getElem?_take_of_lt hky,List.getElem?_drop,show off+(k-off)=k from by omega];exact hk
    cases this
   ·obtain ⟨rfl,rfl⟩:=hPj.1 hsk;have hbB:b≠B:=by
     rintro rfl;rw [g4] at hκB;simp only [aF,Prod.mk.injEq,true_and] at hκB;exact hsk (hP.2 hκB.symm)
    have hsame:=bZ (w:=w) (o:=O+off) (vs:=ys) hbB;have hrg:rg w (tg t) (tm t)=cellD w b:=by rw [hT];funext k;simp [rg,g2]
    have ha:=hp.addr;rw [hrg] at ha hroot;simp only [eY] at ha;have hup:=FI (κ':=κ) (w':=bB w B (O+off) ys) (bo:=(rb (tg t) (tm t)).map fun b=>(b,0)) hsk hroot he hl (by simpa using ha) (dA (fun S hS b hb=>hro S (by rw [hM,if_neg hsk];exact hS) b hb) hm)
     (fun b q hb hbB _=>⟨rfl,bZ hbB⟩) (fun hb=>by rw [hsz];exact hb) rfl
     (fun o' y ho' hy=>⟨by rw [eZ,if_neg (by rintro ⟨_,h1,h2⟩;exact ho' ⟨by omega,by omega⟩)];exact hy,hfacts.2.2.2.2.2 _ _⟩) (jQ hW) (fun o' ho'=>by
      have:o'=o:=by omega
      subst this;exact hrow')
    have hcd:∀i,i<cs'.length->cellD (bB w B (O+off) ys) b i=cellD w b i:=fun i hi=>hsame.cD g5.rdb (Nat.zero_le _) hi
    exact ⟨_,b,rfl,g2,by rw [hsz];exact g3,g4,jQ g5,fun k j c e' hk=>by rw [hcd k (aY hk).1];exact g6 k j c e' hk,
     jA (fun i _ hi=>hcd i (by simpa using hi)) hup⟩
  | dead=>rw [hT] at ht;simp [TT.cts] at ht
  | alias=>rw [hT] at ht;simp [TT.cts] at ht
  | ptr=>rw [hT] at ht;simp [TT.cts] at ht
  | tup=>rw [hT] at ht;simp [TT.cts] at ht
 ·have hne:t≠r:=by omega
  simp only [upd,hne,if_false,h.out t ht'];simp [TT.killD,TT.kill]
 ·exact h.col b (by rw [<-hsz];exact hb)
 ·exact ⟨by rw [hsz];exact h.fr.size,fun b hb h0=>⟨(h.fr.kept b hb h0).1,by
   have hbB:b≠B:=by rintro rfl;rw [(h.fr.kept _ hb h0).1] at hκB;cases hκB
   rw [hfacts.2.2.2.2.1 b hbB];exact (h.fr.kept b hb h0).2⟩,by rw [hfacts.2.1];exact h.fr.os,by rw [hfacts.2.2.1];exact h.fr.out,by rw [hfacts.2.2.2.1];exact h.fr.tape⟩
end
end Go.Fw
namespace Go.Fw
def Ae (r off n:Nat) (srcs:List Nat) (p:Pl):Option Pl:=
 if p.1=r then match p.2 with
  | k::q=>if off<=k/\k<off+n then none else some (r,k::q)
  | []=>some (r,[])
 else if p.1∈srcs then match p.2 with
  | k::q=>some (r,(off+k)::q)
  | []=>none
 else some p
theorem aqK {r off n:Nat} {srcs:List Nat}:∀r' q p,Ae r off n srcs (r',q)=some p->r'∉srcs->p=(r',q):=by
 intro r' q p h hr;unfold Ae at h;by_cases h1:r'=r
 ·subst h1;simp only [if_true] at h;cases q with
  | nil=>simp at h;exact h.symm
  | cons k q=>
   simp only at h;split at h
   ·cases h
   ·cases h;rfl
 ·simp only [h1,hr,if_false] at h;cases h;rfl
def TT.killS (r:Nat) (mods M:List Nat):TT->TT
 | .ptr r' [] off S=>if r'=r then .ptr r' [] off S else (TT.ptr r' [] off S).kill mods M
 | x=>x.kill mods M
theorem aiO {κ κ':aH} {w w':World} {M:List Nat} {r off n:Nat} {cs:List CT} {get:Nat->Value} {ra:List A} (hro:∀S,(∀m,m∈M->m∉S)->∀b,aW κ w S b->aW κ' w' S b/\Same w w' b)
  (hm:CT.mens M cs=false) (ho:∀k b q,¬(off<=k/\k<off+n)->κ b=some (r,k::q)->κ' b=κ b/\Same w w' b) (h:ax κ w cs (r,[]) 0 get ra):ax κ' w' (iJ off n cs) (r,[]) 0 get ra:=by
 refine jN (by rw [gu];exact bU h) fun k c a hc ha => ?_
 rw [qI] at hc;cases hc0:cs[k]? with
 | none=>simp [hc0] at hc
 | some c0=>
  simp only [hc0,Option.map_some,aF] at hc;have h0:=eH h hc0 ha;split at hc
  ·subst hc;cases c0 with
   | d=>simp only [qH];cases a with
    | v y=>simp only [RC] at h0 ⊢;exact h0
    | s xs=>simp [RC] at h0
   | sl m e=>simp only [qH,RC]
  ·rename_i hk;subst hc;refine qG (uS (fun S hS=>hro S hS) (pY hm hc0)) (fun b q hb=>ho k b q hk ?_) h0;simpa [Pl.at] using hb
theorem aaq {off:Nat} {cs x:List CT} (h:off+x.length<=cs.length):splice (iJ off x.length cs) off x=splice cs off x:=by
 apply List.ext_getElem?;intro k;rw [jT (by rw [gu];exact h),jT h];split
 ·rw [qI];rename_i hk;cases cs[k]? with
  | none=>rfl
  | some c=>simp only [Option.map_some];rw [if_neg (by omega)]
 ·split
  ·rfl
  ·rw [qI];cases cs[k]? with
   | none=>rfl
   | some c=>simp only [Option.map_some];rw [if_neg (by omega)]
section
variable {ac:Nat->Nat->Value} {κ0 κ:aH} {w0 w w':World} {N:Nat} {tg:Nat->TT} {sv:Nat->AV} {tm:Nat->Value}
theorem aly (h:R ac κ0 w0 κ w N tg sv tm) {r:Nat} (hrN:r<N) {cr:List CT} (ht:tg r = .box cr) {ra:List A} (hs:sv r = .v ra []) {srcs:List Nat} (hsf:FB∉srcs) (hsr:r∉srcs) {t:Nat} {cs:List CT} {vs:List Value}
  {as:List A} (hp:Part κ w srcs t cs vs as) {off:Nat} (hn:off+cs.length<=cr.length) (hm:CT.mens srcs cr=false) (hpin:fe cs=true) :
  ∃B,tm r = .pointer (some ⟨B,0,none⟩)/\Wrb w B off (off+vs.length) /\
  R ac κ0 w0 (aU κ (Ae r off cs.length srcs) none) (bB w B off vs) N (upd (fun u=>if u∈srcs then .dead else (tg u).killS r (r::srcs) srcs) r (.box (splice cr off cs)))
   (upd sv r (.v (splice ra off as) [])) tm:=by
 have h1:=h.tr r;rw [ht] at h1;simp only [TR] at h1;obtain ⟨as',B,g1,g2,g3,g4,g5,g6,g7⟩:=h1;rw [hs] at g1;cases g1;have hvl:=hp.len;refine ⟨B,g2,g5.sub (Nat.zero_le _) (by omega),?_⟩;have hfacts:=jk vs w B off;have hsz:(bB w B off vs).heap.size=w.heap.size:=hfacts.1;have hcol:∀b p,κ b=some p->aU κ (Ae r off cs.length srcs) none b=Ae r off cs.length srcs p:=fun b p hb=>mY (fun _ _ h=>by cases h) h.col hb
 have hro1:∀S,(∀m,m∈srcs->m∉S)->∀b,aW κ w S b->aW (aU κ (Ae r off cs.length srcs) none) w S b/\Same w w b:=
  fun S hS b hb=>jS (Grows.refl w) aqK (fun _ _ h=>by cases h) hS b hb
 have hne:∀S b,aW κ w S b->b≠B:=by
  rintro S b hb rfl;exact (hb.2 _ _ g4).2 rfl
 have hro:∀S,(∀m,m∈srcs->m∉S)->∀b,aW κ w S b->aW (aU κ (Ae r off cs.length srcs) none) (bB w B off vs) S b/\Same w (bB w B off vs) b:=
  fun S hS b hb=>⟨⟨by rw [hsz];exact (hro1 S hS b hb).1.1,(hro1 S hS b hb).1.2⟩,bZ (hne S b hb)⟩
 have hκB:aU κ (Ae r off cs.length srcs) none B=some (r,[]):=by rw [hcol B _ g4];simp [Ae]
 -- the new row,in the elder world
 have hrow1:ax (aU κ (Ae r off cs.length srcs) none) w (splice cr off cs) (r,[]) 0 (fun k=>(splice ((List.range cr.length).map (cellD w B)) off vs).getD k undef) (splice ra off as):=by
  rw [<-aaq hn];refine Tq ?_ (by simp [gu]) ?_ hvl (by rw [gu];exact hn)
  ·refine jA (fun i _ hi => ?_) (aiO (M:=srcs) hro1 hm (fun k b q hk hb=>⟨?_,Same.refl w b⟩) g7)
   ·rw [gu] at hi;simp at hi;simp [hi]
   ·rw [hcol b _ hb,hb];simp only [Ae,if_true];rw [if_neg hk]
  ·by_cases hts:t∈srcs
   ·have:=dQ (f:=id) (P:=fun S=>∀m,m∈srcs->m∉S) (κ':=aU κ (Ae r off cs.length srcs) none) (w':=w) (p':=(r,[])) (j':=off) (get':=fun k=>vs.getD (k-off) undef) hro1
     (dA (fun S hS=>hS) hp.men) (fun i hi b q hb=>⟨?_,Same.refl w b⟩) (fun i hi=>by simp) hp.row
    ·rwa [fE] at this
    ·rw [hcol b _ hb];have htr:t≠r:=by rintro rfl;exact hsr hts
     simp [Ae,htr,hts]
   ·exact iB (P:=fun S=>∀m,m∈srcs->m∉S) hro1 (hp.own.resolve_left hts) (dA (fun S hS=>hS) hp.men) (fun i hi=>by simp) hp.row
 have hcell:∀k,k<cr.length->cellD (bB w B off vs) B k=(splice ((List.range cr.length).map (cellD w B)) off vs).getD k undef:=by
  intro k hk;rw [bN,jT (by simp;omega)];split
  ·unfold cellD;rw [eZ,if_neg (by omega)];simp [hk]
  ·split
   ·have:=wE (w:=w) (b:=B) (o:=off) (vs:=vs) (g5.sub (Nat.zero_le _) (by omega)) (k-off) (by omega);rw [show off+(k-off)=k from by omega] at this;rw [this,bN]
   ·unfold cellD;rw [eZ,if_neg (by omega)];simp [hk]
 have hspl:(splice cr off cs).length=cr.length:=iR hn;have hrow2:ax (aU κ (Ae r off cs.length srcs) none) (bB w B off vs) (splice cr off cs) (r,[]) 0 (cellD (bB w B off vs) B) (splice ra off as):=by
  refine Rq (fJ (fun S b hb => ?_) _) (fun i hi b q hb=>⟨rfl,bZ ?_⟩) (fun i hi => ?_) hrow1
  ·have:b≠B:=by rintro rfl;exact (hb.2 _ _ hκB).2 rfl
   exact ⟨⟨by rw [hsz];exact hb.1,hb.2⟩,bZ this⟩
  ·rintro rfl;rw [hκB] at hb;simp at hb
  ·rw [Nat.zero_add];exact hcell i (by omega)
 refine oJ (mods:=r::srcs) (M:=srcs) h (by have:=h.nle;simp only [List.mem_cons,not_or];exact ⟨by omega,hsf⟩) hro (fun b r' q hr' hb => ?_) (fun u hu => ?_) (fun u hu => ?_) (fun u _=>rfl) (fun u hu => ?_) (fun u hu => ?_) (fun b hb => ?_) ?_
 ·simp at hr';refine ⟨?_,bZ ?_⟩
  ·rw [hcol b _ hb,hb];simp [Ae,hr']
  ·rintro rfl;rw [g4] at hb;cases hb;exact hr'.1 rfl
 ·simp at hu;simp only [upd,hu.1,hu.2,if_false];cases hT:tg u with
  | ptr r' sk off' S'=>
   cases sk with
   | nil=>
    simp only [TT.killS];by_cases hrr:r'=r
    ·subst hrr;right;simp only [if_true];refine ⟨fun x=>by simp,?_⟩;have h2:=h.tr u;rw [hT] at h2;simp only [TR,upd_ne _ _ _ hu.1,ht,rb,g2,eY] at h2 ⊢;obtain ⟨is',B',O',k1,k2,k3,k4,k5⟩:=h2;cases is' with
     | nil=>
      simp only [Option.map_some,wk,aF,Prod.mk.injEq] at k2;obtain ⟨rfl,rfl⟩:=k2;exact ⟨[],B,0,k1,by simp [upd,wk,rb],by simp [PO],fun b hb=>by simp [upd,rb] at hb;subst hb;exact hκB,k5⟩
     | cons=>simp [wk] at k2
    ·simp only [hrr,if_false];exact .inl trivial
   | cons s sk=>left;simp [TT.killS]
  | _=>left;simp [TT.killS]
 ·simp at hu;simp [upd,hu]
 ·by_cases hur:u=r
  ·subst hur;rw [bC];simp only [TR,bC];refine ⟨_,B,rfl,g2,by rw [hsz];exact g3,hκB,by rw [hspl];exact jQ g5,fun k j c e hk => ?_,hrow2⟩;rw [jT hn] at hk;have hk':k<cr.length:=by
    split at hk
    ·omega
    ·split at hk
     ·omega
     ·exact (aY hk).1
   rw [hcell k hk',bN,jT (by simp;omega)];split at hk
   ·rename_i h9;rw [if_pos h9];have:=g6 k j c e hk;simpa [hk'] using this
   ·split at hk
    ·exact dV (ac:=ac) (get:=fun _=>ac j c) hpin (k-off) j c e hk▸absurd hk (by
      intro hk
      have:=List.all_eq_true.1 hpin _ (List.mem_of_getElem? hk)
      simp at this)
    ·rename_i h8 h9;rw [if_neg h8,if_neg (by omega)];have:=g6 k j c e hk;simpa [hk'] using this
  ·simp [hur] at hu;simp [upd,hur,hu,TR]
 ·have hne':u≠r:=by omega
  simp only [upd,hne',if_false,h.out u hu];split
  ·rfl
  ·simp [TT.killS,TT.kill]
 ·rw [hsz] at hb;simp [aU,h.col b hb]
 ·refine ⟨by rw [hsz];exact h.fr.size,fun b hb h0 => ?_,by rw [hfacts.2.1];exact h.fr.os,by rw [hfacts.2.2.1];exact h.fr.out,by rw [hfacts.2.2.2.1];exact h.fr.tape⟩;have hk:=h.fr.kept b hb h0;have hbB:b≠B:=by rintro rfl;rw [hk.1] at g4;cases g4
  exact ⟨by simp [aU,hk.1],by rw [hfacts.2.2.2.2.1 b hbB];exact hk.2⟩
end
end Go.Fw
namespace Go.Fw
def wT (tx ty:Option Nat) (d m:Nat) (inp:Bool) (p:Pl):Option Pl:=
 if some p.1=tx then match p.2 with
  | [0]=>if inp then some (d,[0]) else none
  | 0::k::q=>some (d,0::k::q)
  | _=>none
 else if some p.1=ty then match p.2 with
  | 0::k::q=>some (d,0::(m+k)::q)
  | _=>none
 else if p.1=d then none else some p
theorem aqL {tx ty:Option Nat} {d m:Nat} {inp:Bool} {srcs:List Nat} (hx:∀x,tx=some x->x∈srcs) (hy:∀y,ty=some y->y∈srcs) :
  ∀r q p,wT tx ty d m inp (r,q)=some p->r∉srcs->p=(r,q):=by
 intro r q p h hr;unfold wT at h;have h1:¬some r=tx:=fun he=>hr (hx r he.symm)
 have h2:¬some r=ty:=fun he=>hr (hy r he.symm)
 simp only [h1,h2,if_false] at h;split at h
 ·cases h
 ·cases h;rfl
section
variable {ac:Nat->Nat->Value} {κ0 κ:aH} {w0 w w':World} {N:Nat} {tg:Nat->TT} {sv:Nat->AV} {tm:Nat->Value}
theorem Tu (w:World) (n:Nat) (ao:Option Addr) (h:n=0\/ao≠none):(behind w n ao).length=n:=by
 cases ao with
 | none=>rcases h with rfl|h
         ·rfl
         ·exact absurd rfl h
 | some a=>simp [behind]
theorem alz {P:Program} {t t2 eT e2T:TypeId} {i:TypeInfo} {z:Value} {ty:TypeId} (hE:LM P t eT i z) (ht2:P.underlying t2=some (.slice e2T))
  (h:R ac κ0 w0 κ w N tg sv tm) {d:Nat} (hd:d<N) {srcs:List Nat} (hsf:FB∉srcs) {e:List CT} (hen:e.length=i.size) {xs ys:List (List A)} {ao yo:Option Addr} {cap ycap:Nat} {tx:Option Nat} {yt:Nat}
  (hx:(tx=none/\xs=[]/\ao=none/\cap=0)\/∃x pin,tx=some x/\x∈srcs/\RC κ w (.sl (.own pin) e) (x,[0]) (.slice ao xs.length cap) (.s xs))
  (hy:ys=[]\/∃b o,yo=some ⟨b,o,none⟩/\Rdb w b o (o+ys.length*e.length)/\bO κ w e (yt,[0]) 0 (fun j=>cellD w b (o+j)) ys)
  (hyo:yt∈srcs\/CT.nowns e=true) (hxy:tx≠some yt) (hm:CT.mens srcs e=false) (hlive:CT.lives e=true) (hlim:xs.length+ys.length<=4294967296) :
  ∃κ' w' v,(Builtin.append_ #[t,t2] ty #[.slice ao xs.length cap,.slice yo ys.length ycap]).run P w = .ok v w' /\
   R ac κ0 w0 κ' w' N (upd (fun u=>if u∈srcs then .dead else (tg u).kill (d::srcs) srcs) d (.val false [.sl (.own none) e])) (upd sv d (.v [.s (xs++ys)] [])) (upd tm d v):=by
 have hfb:FB∉d::srcs:=by have:=h.nle;simp only [List.mem_cons,not_or];exact ⟨by omega,hsf⟩
 -- what is appended to
 have hlen:xs.length<=cap:=by
  rcases hx with ⟨_,rfl,_,rfl⟩|⟨x,pin,_,_,hrc⟩
  ·simp
  ·simp only [RC] at hrc;obtain ⟨_,_,hh,hle,_⟩:=hrc;cases hh;exact hle
 have hs:(ao=none/\cap=0)\/∃b o,ao=some ⟨b,o,none⟩/\Wrb w b o (o+cap*i.size):=by
  rcases hx with ⟨_,_,h1,h2⟩|⟨x,pin,_,_,hrc⟩
  ·exact .inl ⟨h1,h2⟩
  ·simp only [RC] at hrc;obtain ⟨_,_,hh,hle,hc⟩:=hrc;cases hh;rcases hc with hc|⟨b,o,rfl,_,_,hw,_⟩
   ·exact .inl hc
   ·exact .inr ⟨b,o,rfl,by rw [hen] at hw;exact hw⟩
 have hyr:ys.length=0\/∃b o,yo=some ⟨b,o,none⟩/\Rdb w b o (o+ys.length*i.size):=by
  rcases hy with rfl|⟨b,o,h1,h2,_⟩
  ·exact .inl rfl
  ·exact .inr ⟨b,o,h1,by rw [<-hen];exact h2⟩
 -- the cells that are appended
 have hbl:(behind w (ys.length*i.size) yo).length=ys.length*i.size:=by
  refine Tu w _ yo ?_;rcases hy with rfl|⟨b,o,rfl,_,_⟩
  ·exact .inl (by simp)
  ·exact .inr (by simp)
 have hbg:∀b o,yo=some ⟨b,o,none⟩->∀k,k<ys.length*i.size->(behind w (ys.length*i.size) yo).getD k undef=cellD w b (o+k):=by
  rintro b o rfl k hk;simp only [behind];exact nP hk
 have hb1:(behind w (ys.length*i.size) yo).all mW=true:=by
  rw [List.all_eq_true];intro v hv;obtain ⟨k,hk,rfl⟩:=List.mem_iff_getElem.1 hv;rcases hy with rfl|⟨b,o,rfl,h2,h3⟩
  ·rw [hbl] at hk;simp at hk
  ·rw [hbl] at hk;have hpos:=hE.pos;have hkd:=hbg b o rfl k hk;rw [bN,aR (by rw [hbl];exact hk)] at hkd;simp only [Option.getD_some] at hkd;rw [hkd];have hrow:k / i.size<ys.length:=by rw [Nat.div_lt_iff_lt_mul hpos];exact hk
   have hr:=lZ h3 (aR hrow);have hc:k % i.size<e.length:=by rw [hen];exact Nat.mod_lt _ hpos
   have:=eH hr (aR hc) (aR (by rw [bU hr];exact hc));have hf:=FM (mX hlive (aR hc)) this;rw [show 0+k / i.size*e.length+k % i.size=k from by rw [hen,Nat.zero_add,Nat.mul_comm];exact Nat.div_add_mod k i.size] at hf;exact hf
 have hrun:=af6 (t:=t) (t2:=t2) (ty:=ty) (len:=xs.length) (n:=ys.length) (xc:=ycap) hE ht2 hlen hlim hs hyr hb1;have htxs:∀x,tx=some x->x∈srcs:=by
  rintro x rfl;rcases hx with ⟨h1,_⟩|⟨x',_,h1,h2,_⟩
  ·cases h1
  ·cases h1;exact h2
 obtain ⟨tyo,htyo⟩:∃tyo:Option Nat,(tyo=some yt/\yt∈srcs)\/(tyo=none/\CT.nowns e=true/\yt∉srcs):=by
  by_cases hm:yt∈srcs
  ·exact ⟨some yt,.inl ⟨rfl,hm⟩⟩
  ·exact ⟨none,.inr ⟨rfl,hyo.resolve_left hm,hm⟩⟩
 have htys:∀y,tyo=some y->y∈srcs:=by
  rintro y rfl;rcases htyo with ⟨h1,h2⟩|⟨h1,_⟩
  ·cases h1;exact h2
  ·cases h1
 have hallS:CT.allSs (fun S=>∀m,m∈srcs->m∉S) e:=dA (fun S hS=>hS) hm
 -- the rows,in the new colouring
 have rows:∀(κ':aH) (w':World) (inp:Bool) (get:Nat->Value),(∀b p,κ b=some p->κ' b=wT tx tyo d (xs.length*e.length) inp p) ->
   (∀S,(∀m,m∈srcs->m∉S)->∀b,aW κ w S b->aW κ' w' S b/\Same w w' b)->(∀b r q,(∃x,(tx=some x/\r=x)\/(tyo=some x/\r=x))->q≠[0]->κ b=some (r,q)->Same w w' b) ->
   (∀b o,ao=some ⟨b,o,none⟩->∀k,k<xs.length*e.length->get k=cellD w b (o+k))->(∀b o,yo=some ⟨b,o,none⟩->∀k,k<ys.length*e.length->get (xs.length*e.length+k)=cellD w b (o+k)) ->
   bO κ' w' e (d,[0]) 0 get (xs++ys):=by
  intro κ' w' inp get hκ hro hsm hgx hgy;refine af5 (rD fun k x hk => ?_) (rD fun k y hk => ?_)
  ·have hkl:=(aY hk).1;rcases hx with ⟨_,rfl,_⟩|⟨x',pin,rfl,hxs,hrc⟩
   ·simp at hkl
   ·simp only [RC] at hrc;obtain ⟨_,_,hh,hle,hc⟩:=hrc;cases hh;rcases hc with ⟨_,rfl⟩|⟨b,o,rfl,hbs,hb,hw,he⟩
    ·omega
    ·have hr:=lZ he hk;have hin:=Nat.mul_le_mul_right e.length (show k+1<=xs.length by omega);rw [Nat.add_mul] at hin;have:=dQ (f:=id) (P:=fun S=>∀m,m∈srcs->m∉S) (κ':=κ') (w':=w') (p':=(d,[0])) (j':=0+k*e.length) (get':=get) hro hallS (fun c hc b' q hb'=>⟨?_,?_⟩) (fun c hc => ?_) hr
     ·rwa [fE] at this
     ·rw [hκ b' _ hb'];simp [wT]
     ·exact hsm b' _ _ ⟨x',.inl ⟨rfl,rfl⟩⟩ (by simp) hb'
     ·rw [hgx b o rfl _ (by omega)]
  ·have hkl:=(aY hk).1;rcases hy with rfl|⟨b,o,rfl,hrd,he⟩
   ·simp at hkl
   ·have hr:=lZ he hk;have hin:=Nat.mul_le_mul_right e.length (show k+1<=ys.length by omega);rw [Nat.add_mul] at hin;rcases htyo with ⟨rfl,hys⟩|⟨rfl,hnown,_⟩
    ·have:=dQ (f:=id) (P:=fun S=>∀m,m∈srcs->m∉S) (κ':=κ') (w':=w') (p':=(d,[0])) (j':=0+xs.length*e.length+k*e.length) (get':=get) hro hallS (fun c hc b' q hb'=>⟨?_,?_⟩) (fun c hc => ?_) hr
     ·rwa [fE] at this
     ·rw [hκ b' _ hb'];have hne:¬some yt=tx:=fun h=>hxy h.symm
      simp [wT,hne];omega
     ·exact hsm b' _ _ ⟨yt,.inr ⟨rfl,rfl⟩⟩ (by simp) hb'
     ·rw [show 0+xs.length*e.length+k*e.length+c=xs.length*e.length+(k*e.length+c) from by omega,hgy b o rfl _ (by omega)];congr 1;omega
    ·refine iB (P:=fun S=>∀m,m∈srcs->m∉S) hro hnown hallS (fun c hc => ?_) hr;rw [show 0+xs.length*e.length+k*e.length+c=xs.length*e.length+(k*e.length+c) from by omega,hgy b o rfl _ (by omega)];congr 1;omega
 have hFid:∀inp r q,r∉d::srcs->wT tx tyo d (xs.length*e.length) inp (r,q)=some (r,q):=by
  intro inp r q hr;simp at hr;have h1:¬some r=tx:=fun he=>hr.2 (htxs r he.symm)
  have h2:¬some r=tyo:=fun he=>hr.2 (htys r he.symm)
  simp [wT,h1,h2,hr.1]
 have hFM:=fun inp=>aqL (d:=d) (m:=xs.length*e.length) (inp:=inp) htxs htys
 -- tags of the others
 have fin:∀(κ':aH) (w':World) (v:Value),TR ac κ' w' (upd (fun u=>if u∈srcs then .dead else (tg u).kill (d::srcs) srcs) d (.val false [.sl (.own none) e])) (upd sv d (.v [.s (xs++ys)] [])) (upd tm d v) d (.val false [.sl (.own none) e]) ->
   ∀u,u∈d::srcs->TR ac κ' w' (upd (fun u=>if u∈srcs then .dead else (tg u).kill (d::srcs) srcs) d (.val false [.sl (.own none) e])) (upd sv d (.v [.s (xs++ys)] [])) (upd tm d v) u
    (upd (fun u=>if u∈srcs then .dead else (tg u).kill (d::srcs) srcs) d (.val false [.sl (.own none) e]) u):=by
  intro κ' w' v hT u hu;by_cases hud:u=d
  ·subst hud;rw [bC];exact hT
  ·simp [hud] at hu;simp [upd,hud,hu,TR]
 have hout:∀u,N<=u->upd (fun u=>if u∈srcs then .dead else (tg u).kill (d::srcs) srcs) d (.val false [.sl (.own none) e]) u = .dead:=by
  intro u hu;have hne:u≠d:=by omega
  simp only [upd,hne,if_false];split
  ·rfl
  ·simp [h.out u hu,TT.kill]
 have htg:∀r,r∉d::srcs->upd (fun u=>if u∈srcs then .dead else (tg u).kill (d::srcs) srcs) d (.val false [.sl (.own none) e]) r=(tg r).kill (d::srcs) srcs:=by
  intro r hr;simp at hr;simp [upd,hr]
 rcases hrun with ⟨b,o,rfl,hle,hrun⟩|⟨h0,rfl,hrun⟩|⟨newCap,rest,hlt,hge,hrest,hrun⟩
 ·-- in place
  obtain ⟨x,pin,rfl,hxs,hrc⟩:∃x pin,tx=some x/\x∈srcs/\RC κ w (.sl (.own pin) e) (x,[0]) (.slice (some ⟨b,o,none⟩) xs.length cap) (.s xs):=by
   rcases hx with ⟨_,_,h1,_⟩|h1
   ·cases h1
   ·exact h1
  simp only [RC] at hrc;obtain ⟨_,_,hh,hle',hc⟩:=hrc;cases hh;rcases hc with ⟨hc,_⟩|⟨b',o',hc,hbs,hb,hw,he⟩
  ·cases hc
  cases hc;have hfacts:=jk (behind w (ys.length*i.size) yo) w b (o+xs.length*i.size);have hcolr:∀b p,κ b=some p->aU κ (wT (some x) tyo d (xs.length*e.length) true) none b=wT (some x) tyo d (xs.length*e.length) true p:=fun b p hb=>mY (fun _ _ h=>by cases h) h.col hb
  have hneb:∀S b',(∀m,m∈srcs->m∉S)->aW κ w S b'->b'≠b:=by
   rintro S b' hS hb' rfl;exact hS x hxs (hb'.2 _ _ hb).1
  have hro:∀S,(∀m,m∈srcs->m∉S)->∀b',aW κ w S b'->aW (aU κ (wT (some x) tyo d (xs.length*e.length) true) none) (bB w b (o+xs.length*i.size) (behind w (ys.length*i.size) yo)) S b' /\
    Same w (bB w b (o+xs.length*i.size) (behind w (ys.length*i.size) yo)) b':=by
   intro S hS b' hb';have:=(jS (Grows.refl w) (hFM true) (nb:=none) (fun _ _ h=>by cases h) hS b' hb').1;exact ⟨⟨by rw [hfacts.1];exact this.1,this.2⟩,bZ (hneb S b' hS hb')⟩
  have hmul:=Nat.mul_le_mul_right i.size hle;rw [Nat.add_mul] at hmul;have hcells:∀k,k<xs.length*e.length->cellD (bB w b (o+xs.length*i.size) (behind w (ys.length*i.size) yo)) b (o+k)=cellD w b (o+k):=by
   intro k hk;rw [hen] at hk;unfold cellD;rw [eZ,if_neg (by omega)]
  refine ⟨_,_,_,hrun,oJ (κ':=aU κ (wT (some x) tyo d (xs.length*e.length) true) none) (mods:=d::srcs) (M:=srcs) h hfb hro (fun b' r q hr hb' => ?_) (fun r hr=>.inl (htg r hr)) (fun r hr => ?_) (fun r hr => ?_) (fin _ _ _ ?_) hout (fun b' hb' => ?_) ?_⟩
  ·refine ⟨by rw [hcolr b' _ hb',hFid true r q hr,hb'],bZ ?_⟩;rintro rfl;rw [hb] at hb';cases hb';simp at hr;exact hr.2 hxs
  ·simp at hr;simp [upd,hr]
  ·simp at hr;simp [upd,hr]
  ·simp only [TR,bC];refine ⟨_,[.slice (some ⟨b,o,none⟩) (xs.length+ys.length) cap],rfl,rfl,rfl,fun k j c e' hk=>by cases k<;>simp at hk,?_⟩;simp only [ax,RC];refine ⟨⟨_,cap,by simp,by simpa using hle,.inr ⟨b,o,rfl,by rw [hfacts.1];exact hbs,by rw [hcolr b _ hb];simp [wT,Pl.at],jQ hw,?_⟩⟩,trivial⟩;have:=rows _ (bB w b (o+xs.length*i.size) (behind w (ys.length*i.size) yo)) true (fun j=>cellD (bB w b (o+xs.length*i.size) (behind w (ys.length*i.size) yo)) b (o+j)) hcolr hro
    (fun b' r q hr hq hb'=>bZ (by
     rintro rfl
     rw [hb] at hb';cases hb'
     exact hq rfl))
    (fun b1 o1 h1 k hk=>by cases h1;exact hcells k hk)
    (fun b1 o1 h1 k hk=>by
     rw [hen] at hk ⊢
     have hW:Wrb w b (o+xs.length*i.size) (o+xs.length*i.size+(behind w (ys.length*i.size) yo).length):=by
      rw [hbl];rw [hen] at hw;exact hw.sub (by omega) (by omega)
     have:=wE hW k (by rw [hbl];exact hk)
     rw [<-hbg b1 o1 h1 k hk,<-this]
     congr 1;omega)
   simpa [Pl.at] using this
  ·rw [hfacts.1] at hb';simp [aU,h.col b' hb']
  ·refine ⟨by rw [hfacts.1];exact h.fr.size,fun b' hb' h0 => ?_,by rw [hfacts.2.1];exact h.fr.os,by rw [hfacts.2.2.1];exact h.fr.out,by rw [hfacts.2.2.2.1];exact h.fr.tape⟩;have hk:=h.fr.kept b' hb' h0;have hbB:b'≠b:=by rintro rfl;rw [hk.1] at hb;cases hb
   exact ⟨by simp [aU,hk.1],by rw [hfacts.2.2.2.2.1 b' hbB];exact hk.2⟩
 ·-- nothing to nothing
  have hx0:xs=[]:=List.length_eq_zero_iff.1 (by omega);have hy0:ys=[]:=List.length_eq_zero_iff.1 (by omega);refine ⟨_,_,_,hrun,Wp (F:=wT tx tyo d (xs.length*e.length) false) (nb:=none) (mods:=d::srcs) (M:=srcs) h hfb (Grows.refl w) (hFid false) (hFM false) (fun _ _ h=>by cases h) htg (fun r hr => ?_) (fun r hr => ?_) (fin _ _ _ ?_) hout⟩
  ·simp at hr;simp [upd,hr]
  ·simp at hr;simp [upd,hr]
  ·simp only [TR,bC];refine ⟨_,[.slice none 0 0],rfl,rfl,rfl,fun k j c e' hk=>by cases k<;>simp at hk,?_⟩;simp only [ax,RC];subst hx0;subst hy0;exact ⟨⟨none,0,by simp,by simp,.inl ⟨rfl,rfl⟩⟩,trivial⟩
 ·-- a new block
  have hgr:Grows w (dN (il w) (behind w (xs.length*i.size) ao++behind w (ys.length*i.size) yo++rest).toArray eT):=(adg w).trans (oK _ _ _);have hal:(behind w (xs.length*i.size) ao).length=xs.length*i.size:=by
   refine Tu w _ ao ?_;rcases hs with ⟨_,rfl⟩|⟨b,o,rfl,_⟩
   ·left;have:xs.length=0:=by omega
    rw [this];simp
   ·exact .inr (by simp)
  have hnb:∀b p,some (w.heap.size,((d,[0]):Pl))=some (b,p)->w.heap.size<=b:=fun b p h=>by cases h;exact Nat.le_refl _
  have hcolr:∀b p,κ b=some p->aU κ (wT tx tyo d (xs.length*e.length) false) (some (w.heap.size,(d,[0]))) b=wT tx tyo d (xs.length*e.length) false p:=fun b p hb=>mY hnb h.col hb
  have hro:∀S,(∀m,m∈srcs->m∉S)->∀b',aW κ w S b'->aW (aU κ (wT tx tyo d (xs.length*e.length) false) (some (w.heap.size,(d,[0])))) (dN (il w) (behind w (xs.length*i.size) ao++behind w (ys.length*i.size) yo++rest).toArray eT) S b' /\
    Same w (dN (il w) (behind w (xs.length*i.size) ao++behind w (ys.length*i.size) yo++rest).toArray eT) b':=fun S hS b' hb'=>jS hgr (hFM false) hnb hS b' hb'
  refine ⟨_,_,_,hrun,Wp (F:=wT tx tyo d (xs.length*e.length) false) (nb:=some (w.heap.size,(d,[0]))) (mods:=d::srcs) (M:=srcs) h hfb hgr (hFid false) (hFM false) (fun b p h=>by cases h;simp [dN,il]) htg (fun r hr => ?_) (fun r hr => ?_) (fin _ _ _ ?_) hout⟩
  ·simp at hr;simp [upd,hr]
  ·simp at hr;simp [upd,hr]
  ·simp only [TR,bC];have hcD:∀k,cellD (dN (il w) (behind w (xs.length*i.size) ao++behind w (ys.length*i.size) yo++rest).toArray eT) w.heap.size k=(behind w (xs.length*i.size) ao++behind w (ys.length*i.size) yo++rest).getD k undef:=by
    intro k;exact DY (il w) _ eT k
   refine ⟨_,[.slice (some ⟨w.heap.size,0,none⟩) (xs.length+ys.length) newCap],rfl,rfl,rfl,fun k j c e' hk=>by cases k<;>simp at hk,?_⟩;simp only [ax,RC];refine ⟨⟨_,newCap,by simp,by simpa using hge,.inr ⟨w.heap.size,0,rfl,by simp [dN,il],by simp [aU,Pl.at],?_,?_⟩⟩,trivial⟩
   ·have:=LJ (il w) (behind w (xs.length*i.size) ao++behind w (ys.length*i.size) yo++rest).toArray eT 0 (0+newCap*e.length) (by
     simp only [List.size_toArray,bq,hal,hbl,hrest,hen]
     have:newCap=(xs.length+ys.length)+(newCap-(xs.length+ys.length)):=by omega
     conv=>lhs;rw [this]
     rw [Nat.add_mul,Nat.add_mul];omega)
    exact this
   ·have:=rows _ (dN (il w) (behind w (xs.length*i.size) ao++behind w (ys.length*i.size) yo++rest).toArray eT) false (fun j=>cellD (dN (il w) (behind w (xs.length*i.size) ao++behind w (ys.length*i.size) yo++rest).toArray eT) w.heap.size j) hcolr hro
     (fun b' r q hr hq hb'=>hgr.same b')
     (fun b1 o1 h1 k hk=>by
      rw [hcD,bN,List.append_assoc,List.getElem?_append_left (by rw [hal,<-hen];exact hk)]
      subst h1
      simp only [behind,hen] at hk ⊢
      simp [hk])
     (fun b1 o1 h1 k hk=>by
      rw [hen] at hk ⊢
      rw [hcD,bN,List.append_assoc,List.getElem?_append_right (by rw [hal];omega),hal,List.getElem?_append_left (by rw [hbl];omega)]
      rw [show xs.length*i.size+k-xs.length*i.size=k from by omega,<-bN]
      exact hbg b1 o1 h1 k hk)
    simpa [Pl.at] using this
end
end Go.Fw
